/- The patches of least and greatest values; the patch of a kind. -/
import Derived.Test.YtlkdhannldcfbaaGreatDoorPj4
set_option linter.unusedVariables false
set_option linter.unusedSimpArgs false
namespace Go.Proofs.YtlkdhannldcfbaaGreatDoor
open Go.Proofs.Tryz
open Go Go.RowKit Gw
set_option maxRecDepth 100000
attribute [local irreducible] Gw.At Gw.Nx Gw.Ops
def CF(q:QM)(c:Chg)(r:CP):CP×Bool:=
 if q.kd=1\/q.kd=2 then(⟨EM q c r.rows,r.val,r.fnd⟩,true)
 else if q.kd=3 then(⟨r.rows,if(afQ q c).isSome then r.val+1 else r.val -1,r.fnd⟩,true)
 else if q.kd=4 then(⟨r.rows,r.val+(mQ q (afQ q c) -mQ q (bfQ q c)),r.fnd⟩,true)
 else if q.kd=5 then Kb (fun a b=>decide (a<b)) (bfQ q c).isSome (afQ q c).isSome (mQ q (bfQ q c)) (mQ q (afQ q c)) r
 else if q.kd=6 then Kb (fun a b=>decide (b<a)) (bfQ q c).isSome (afQ q c).isSome (mQ q (bfQ q c)) (mQ q (afQ q c)) r
 else DU q c r
theorem dF(q:QM)(c:Chg)(r:CP):(CF q c r).1.rows.length<=r.rows.length+2:=by
 have h:=UH q c r.rows;unfold CF;split;· exact SZ h (Nat.le_succ _)
 · split
   · exact cP _ _
   · split
     · exact cP _ _
     · split
       · rw [NW];exact cP _ _
       · split
         · rw [NW];exact cP _ _
         · exact dH q c r
set_option maxHeartbeats 1000000 in
theorem VR(q:QM)(c:Chg)(J K:B7)(o n:Int)(r:CP)(pv:B7)(X O b E:Nat)(lt:Int->Int->Bool)(G:∀(args:AN) (w:A6),(callFunc E args).run prog w= .ok (.enter E args) w)(I:∀x y:Int,BC prog E #[I4 x,I4 y] [] (.bool (lt x y))):BC prog 233 #[.agg (q.GO c J K o n),.agg #[.slice pv X O,I4 r.val,.bool r.fnd],I5 b] [[(b,.cells #[.func (.func E) #[] #[]] 154 (0,0))]] (.tuple #[.agg #[.slice pv X O,I4 (Kb lt J.isSome K.isSome o n r).1.val,.bool (Kb lt J.isSome K.isSome o n r).1.fnd],.bool (Kb lt J.isSome K.isSome o n r).2]):=by
 refine Se func233 ntmps233 [0,1,2] ?_;intro u R;refine A1<|Ze (Ik Y (cs:=(q.GO c J K o n)) (Gd q c J K o n))<|AF fun be=>Ze (Bx #[.slice pv X O,I4 r.val,.bool r.fnd])<|AF fun br=>Ze (Al GW #[_,_,_])<|AF fun b3=>A3 Y<|Zq<|Zb [2,3,4,5] ?_;refine CL (e0:=[]) (H0:=[]) (fun e H=>∃(w1:Bool),(w1=(J.isSome&&(!r.fnd||!lt r.val o)))/\e=[(24,.bool w1)]/\H=[]) Wp ?hx_1 ?hy_1
 case hx_1=>
  refine Zg<|Zh 17 E7 V rfl L4 Y<|Zl N1 Y ?_;refine Zv (GI S3 Y Y)<|Zm Y<|Ah (t:=11) Y V (fun h1=>?_) (fun h1=>?_);·
   refine Yf 2 Cp V rfl Cl Y<|Yl DH Y ?_;refine Yg (Cj Y)<|Zf Y Y ?_;refine Ah (t:=15) Y V (fun h2=>?_) (fun h2=>?_);·
    refine A7 Y V<|A7 Y V<|A7 Y V<|A7 Y V<|A7 Y V<|A7 Y V<|A7 Y V<|Yg (AR Y Y)<|Zv (AR Y Y)<|Z0<|Zn [24,2,3,4,5] ?_;refine Aq (e':=[(24,_)]) (by exact ⟨_,by simp_all,V,V⟩)
   refine Yl isAgg154 Y ?_;refine Yf 1 Cp V rfl A5 Y<|Yl AE Y ?_;refine Yf 19 E7 V rfl A5 Y<|Yl AE Y ?_;refine Xr [_,_] Y (G) Y V (I (r.val) (o)) ?_;refine Yg (Cj Y)<|Yg (AL Y Y)<|Zv (AR Y Y)<|Z0<|Zn [24,2,3,4,5] ?_;refine Aq (e':=[(24,_)]) (by exact ⟨_,by simp_all,V,V⟩)
  refine A7 Y V<|A7 Y V<|A7 Y V<|A7 Y V<|A7 Y V<|A7 Y V<|A7 Y V<|A7 Y V<|A7 Y V<|A7 Y V<|A7 Y V<|A7 Y V<|Zv (AL Y Y)<|Z0<|Zn [24,2,3,4,5] ?_;refine Aq (e':=[(24,_)]) (by exact ⟨_,by simp_all,V,V⟩)
 rintro _ _ ⟨w1,g,rfl,rfl⟩;refine Ad Y (fun U=>?_) (fun U=>?_);·
  rw [U]at g;refine Zb [2,3,4,5] ?_;refine CL (e0:=[(2,_)]) (H0:=[]) (fun e H=>∃(w2:Bool),(w2=((K.isSome&&r.fnd)&&!lt r.val n))/\e=[(7,.bool w2)]/\H=[]) Wp ?hx_5 ?hy_5
  case hx_5=>
   refine Zg<|Zh 18 E7 V rfl L4 Y<|Zl N1 Y ?_;refine Zv (GI S3 Y Y)<|Zm Y<|Ah (t:=28) Y V (fun h4=>?_) (fun h4=>?_);·
    refine Yf 2 Cp V rfl Cl Y<|Yl DH Y ?_;refine Zv (AR Y Y)<|Zm Y<|Ah (t:=32) Y V (fun h5=>?_) (fun h5=>?_);·
     refine Yl isAgg154 Y ?_;refine Yf 1 Cp V rfl A5 Y<|Yl AE Y ?_;refine Yf 20 E7 V rfl A5 Y<|Yl AE Y ?_;refine Xr [_,_] Y (G) Y V (I (r.val) (n)) ?_;refine Yg (Cj Y)<|Zv (AR Y Y)<|AH Y<|Zn [7,3,4,5] ?_;refine Aq (e':=[(7,_)]) (by exact ⟨_,by simp_all,V,V⟩)
    refine A7 Y V<|A7 Y V<|A7 Y V<|A7 Y V<|A7 Y V<|A7 Y V<|A7 Y V<|Zv (AL Y Y)<|AH Y<|Zn [7,3,4,5] ?_;refine Aq (e':=[(7,_)]) (by exact ⟨_,by simp_all,V,V⟩)
   refine A7 Y V<|A7 Y V<|Zv (AL Y Y)<|Zm Y<|A7 Y V<|A7 Y V<|A7 Y V<|A7 Y V<|A7 Y V<|A7 Y V<|A7 Y V<|Zv (AL Y Y)<|AH Y<|Zn [7,3,4,5] ?_;refine Aq (e':=[(7,_)]) (by exact ⟨_,by simp_all,V,V⟩)
  rintro _ _ ⟨w2,af,rfl,rfl⟩;refine A1<|Zh 20 E7 V rfl A5 Y<|Zl AE Y ?_;refine Zh 1 Cp V rfl A5 Y<|Xe (Zs A5 Y Y V (hi:=by(simp;done))) ?_;refine AD<|A1<|Zo Wh (A9 (cs:=#[_,_,_]) CC B6 Y B5 An) ?_;refine Zm Y<|Xe (Xw B6 _) ?_;refine A3 Y<|AA<|Zt<|CJ V results233 Y Wh (Ar CC B6 Wn (V)) Y (by
   refine ⟨?_,V⟩;unfold Kb;rw [<-g];clear g;try(rw [<-m];clear m)
   simp_all<;>rfl)
 rw [U]at g;refine AB<|Zx<|Zq<|A1<|Zh 18 E7 V rfl L4 Y<|Zl N1 Y ?_;refine Zv (GI S3 Y Y)<|AD<|Ad Y (fun h6=>?_) (fun h6=>?_);·
  refine Zq<|Zb [2,3,4,5] ?_;refine CL (e0:=[(2,_)]) (H0:=[]) (fun e H=>∃(w3:Bool),(w3=(!r.fnd||lt n r.val))/\e=[(59,.bool w3)]/\H=[]) Wp ?hx_10 ?hy_10
  case hx_10=>
   refine Zg<|Zh 2 Cp V rfl Cl Y<|Zl DH Y ?_;refine Zv (Cj Y)<|Zm Y<|Ah (t:=52) Y V (fun h7=>?_) (fun h7=>?_);·
    refine A7 Y V<|A7 Y V<|A7 Y V<|A7 Y V<|A7 Y V<|A7 Y V<|Zv (AR Y Y)<|Z0<|Zn [59,3,4,5] ?_;refine Aq (e':=[(59,_)]) (by exact ⟨_,by simp_all,V,V⟩)
   refine Yl isAgg154 Y ?_;refine Yf 20 E7 V rfl A5 Y<|Yl AE Y ?_;refine Yf 1 Cp V rfl A5 Y<|Yl AE Y ?_;refine Xr [_,_] Y (G) Y V (I (n) (r.val)) ?_;refine Zv (AL Y Y)<|Z0<|Zn [59,3,4,5] ?_;refine Aq (e':=[(59,_)]) (by exact ⟨_,by simp_all,V,V⟩)
  rintro _ _ ⟨w3,m,rfl,rfl⟩;refine Ad Y (fun W=>?_) (fun W=>?_);·
   rw [W]at m;refine Zg<|Zh 20 E7 V rfl A5 Y<|Zl AE Y ?_;refine Zh 1 Cp V rfl A5 Y<|Xe (Zs A5 Y Y V (hi:=by(simp;done))) ?_;refine AD<|Zg<|Zh 2 Cp V rfl Cl Y<|Xe (Zs Cl Y Y V (hi:=by(simp;done))) ?_;refine AD<|A1<|Zo Wh (A9 (cs:=#[_,_,_]) CC B6 Y B5 An) ?_;refine Xe (Xw B6 _) ?_;refine A3 Y<|AA<|CJ V results233 Y Wh (Ar CC B6 Wn (V)) Y (by
    refine ⟨?_,V⟩;unfold Kb;rw [<-g];clear g;try(rw [<-m];clear m)
    simp_all<;>rfl)
  rw [W]at m;refine AB<|Zx<|Zg<|Zh 2 Cp V rfl Cl Y<|Xe (Zs Cl Y Y V (hi:=by(simp;done))) ?_;refine AD<|A1<|Zo Wh (A9 (cs:=#[_,_,_]) CC B6 Y B5 An) ?_;refine Xe (Xw B6 _) ?_;refine A3 Y<|AA<|CJ V results233 Y Wh (Ar CC B6 Wn (V)) Y (by
   refine ⟨?_,V⟩;unfold Kb;rw [<-g];clear g;try(rw [<-m];clear m)
   simp_all<;>rfl)
 refine AB<|Zx<|A1<|Zo Wh (A9 (cs:=#[_,_,_]) CC B6 Y B5 An) ?_;refine Xe (Xw B6 _) ?_;refine A3 Y<|AA<|CJ V results233 Y Wh (Ar CC B6 Wn (V)) Y (by
  refine ⟨?_,V⟩;unfold Kb;rw [<-g];clear g;try(rw [<-m];clear m)
  simp_all<;>rfl)
theorem pU(x y:Int):BC prog 212 #[I4 x,I4 y] [] (.bool (decide (x<y))):=by
 refine Se func212 ntmps212 [0,1] ?_;intro u R;refine A1<|A3 Y<|A1<|Zm Y<|Zm Y<|Zv (ET Y Y)<|A3 Y<|AA<|AC V results212 Y (by exact ⟨V,V⟩)
theorem pW(x y:Int):BC prog 214 #[I4 x,I4 y] [] (.bool (decide (y<x))):=by
 refine Se func214 ntmps214 [0,1] ?_;intro u R;refine A1<|A3 Y<|A1<|Zm Y<|Zm Y<|Zv (EI Y Y)<|A3 Y<|AA<|AC V results214 Y (by exact ⟨V,V⟩)
def Gs(k:Int):Nat:=if k=1 then 205 else if k=2 then 205 else if k=3 then 207 else if k=4 then 209 else if k=5 then 233 else if k=6 then 233 else 216
def JF(b5 b6:Nat)(k:Int):List A4:=if k=5 then [I5 b5]else if k=6 then [I5 b6]else []
theorem Vn{lm:List (Int×A4)}{g m:Nat}(h:∀p,p∈lm↔p∈Mq g m)(hn:(lm.map (·.1)).Nodup){k:Int}(E:1<=k/\k<=7):JR k lm=some (.agg #[.func (.func (IE k)) #[] #[],.func (.func (Gs k)) #[] (JF g m k).toArray]):=by
 obtain h9|h9|h9|h9|h9|h9|h9:k=1\/k=2\/k=3\/k=4\/k=5\/k=6\/k=7:=by omega
 all_goals subst h9
 all_goals exact ZB h hn (by simp [Mq,IE,Gs,JF])
theorem Ll{k:Int}(g:1<=k/\k<=7):∀(args:AN) (w:A6),(callFunc (Gs k) args).run prog w= .ok (.enter (Gs k) args) w:=by
 obtain h|h|h|h|h|h|h:k=1\/k=2\/k=3\/k=4\/k=5\/k=6\/k=7:=by omega
 all_goals (subst h;simp only [Gs];first|exact call205|exact call207|exact call209|exact call233|exact call216)
theorem Ia{P:Program}{f:FuncId}{args:AN}{H H1:Hp}{Q G:A4->Hp->Prop}(h:Bz P f args H Q)(F:Hp)(O:H1.flatten.Perm (H++F).flatten)(U:∀v H',Q v H'->∃g E,G v g/\(H'.flatten++F.flatten).Perm (g.flatten++E)):Bz P f args H1 G:=fun u R w W=>
 Calls.mono (h u (F++R) w (W.perm (by rw [HT,<-D2,HT (L₁:=H++F)];exact O.append_right _))) fun e X K=>by
  rcases K with⟨v,H',rfl,m,h2⟩|⟨ch,H',rfl,m,h2⟩
  · obtain ⟨g,E,I,J⟩:=U v H' m
    refine .inl ⟨v,g,V,I,h2.sub ⟨E,?_⟩⟩;rw [HT,HT,HT,<-D2];refine (J.append_right _).trans ?_;rw [D2,D2];exact RE.append_left _
  · exact m.elim
def MIn(q:QM)(c:Chg):Prop:=(-1000000000<=mQ q (bfQ q c)/\mQ q (bfQ q c)<=1000000000)/\-1000000000<=mQ q (afQ q c)/\mQ q (afQ q c)<=1000000000
variable{q:QM}{b:Bool}{x:AY}
theorem wD(h:b=true->x.ok):-1000000000<=mQ q (J3 q b x)/\mQ q (J3 q b x)<=1000000000:=by
 unfold J3;split
 · rename_i h9
   rw [Fo]at h9;exact NF (h h9.1) q.bq
 · exact ⟨by show(-1000000000:Int)<=0;decide,by show(0:Int)<=1000000000;decide⟩
variable{c:Chg}
theorem pJ(q:QM)(h:c.ok):MIn q c:=by
 obtain ⟨_,h2,_⟩:=h;refine ⟨wD fun g=>?_,wD fun g=>?_⟩
 · rw [NA g]at h2
   exact G2.1 fun m=>h2 (.inl ⟨g,m⟩)
 · rw [KR g]at h2
   exact G2.1 fun m=>h2 (.inr ⟨g,m⟩)
theorem Lu(q:QM)(c:Chg)(hq:BS q)(hm:MIn q c){J K:B7}{s1 s2:List AU}(ax:JI J (bfQ q c) s1)(O:JI K (afQ q c) s2)(g m:Nat)(r:CP)(X:B7)(U:Nat)(sr:List AU)(W:BZ 5 98 (.slice X r.rows.length U) r.rows.length (Ac r.rows) sr)(hn:r.rows.length<=100000000)(hv:-4000000000000000000<=r.val/\r.val<=4000000000000000000):
 Bz prog (Gs q.kd) (.agg (q.GO c J K (mQ q (bfQ q c)) (mQ q (afQ q c))):: .agg #[.slice X r.rows.length U,I4 r.val,.bool r.fnd]::JF g m q.kd).toArray [sr,s2,[(g,.cells #[.func (.func 212) #[] #[]] 154 (0,0))],[(m,.cells #[.func (.func 214) #[] #[]] 154 (0,0))]] (fun w H'=>∃E I,w= .tuple #[.agg #[E,I4 (CF q c r).1.val,.bool (CF q c r).1.fnd],.bool (CF q c r).2]/\BZ 5 98 E (CF q c r).1.rows.length (Ac (CF q c r).1.rows) I/\H'=[I]):=by
 have e1:=ax.some_;have e2:=O.some_
 have af:=hq.2.1;have hk:q.kd=1\/q.kd=2\/q.kd=3\/q.kd=4\/q.kd=5\/q.kd=6\/q.kd=7:=by have:=hq.2.2.2;omega
 have G:(q.kd=1\/q.kd=2)->CF q c r=(⟨EM q c r.rows,r.val,r.fnd⟩,true):=fun h=>by unfold CF;rw [B0 h]
 have P1:=bZ q c J K (mQ q (bfQ q c)) (mQ q (afQ q c)) af W hn O;have P7:=cZ q af c J K e1 O W hn
 have P3:=Yd q c J K (mQ q (bfQ q c)) (mQ q (afQ q c)) X r.rows.length U hv;have P4:=jW q c J K (mQ q (bfQ q c)) (mQ q (afQ q c)) X r.rows.length U hv hm
 have P5:=VR q c J K (mQ q (bfQ q c)) (mQ q (afQ q c)) r X r.rows.length U g 212 (fun a b=>decide (a<b)) call212 pU;have P6:=VR q c J K (mQ q (bfQ q c)) (mQ q (afQ q c)) r X r.rows.length U m 214 (fun a b=>decide (b<a)) call214 pW
 rw [e2]at P3;rw [e1,e2]at P5 P6;rcases hk with h|h|h|h|h|h|h
 · rw [show Gs q.kd=205 by rw [h];rfl,show JF g m q.kd=[] by rw [h];rfl,G (.inl h)]
   refine Ia P1 [[(g,.cells #[.func (.func 212) #[] #[]] 154 (0,0))],[(m,.cells #[.func (.func 214) #[] #[]] 154 (0,0))]] B3 ?_;rintro w H' ⟨E,I,rfl,h3,rfl⟩;exact ⟨[I],_,⟨E,I,V,h3,V⟩,by simp;exact .refl _⟩
 · rw [show Gs q.kd=205 by rw [h];rfl,show JF g m q.kd=[] by rw [h];rfl,G (.inr h)]
   refine Ia P1 [[(g,.cells #[.func (.func 212) #[] #[]] 154 (0,0))],[(m,.cells #[.func (.func 214) #[] #[]] 154 (0,0))]] B3 ?_;rintro w H' ⟨E,I,rfl,h3,rfl⟩;exact ⟨[I],_,⟨E,I,V,h3,V⟩,by simp;exact .refl _⟩
 · rw [show Gs q.kd=207 by rw [h];rfl,show JF g m q.kd=[] by rw [h];rfl,show CF q c r=(⟨r.rows,if(afQ q c).isSome then r.val+1 else r.val -1,r.fnd⟩,true) by unfold CF;rw [As A0,B0 h]]
   refine Ia P3 [sr,s2,[(g,.cells #[.func (.func 212) #[] #[]] 154 (0,0))],[(m,.cells #[.func (.func 214) #[] #[]] 154 (0,0))]] B3 ?_;rintro w H' ⟨rfl,rfl⟩;exact ⟨[sr],_,⟨_,sr,V,W,V⟩,by simp;exact .refl _⟩
 · rw [show Gs q.kd=209 by rw [h];rfl,show JF g m q.kd=[] by rw [h];rfl,show CF q c r=(⟨r.rows,r.val+(mQ q (afQ q c) -mQ q (bfQ q c)),r.fnd⟩,true) by unfold CF;rw [As A0,As A0,B0 h]]
   refine Ia P4 [sr,s2,[(g,.cells #[.func (.func 212) #[] #[]] 154 (0,0))],[(m,.cells #[.func (.func 214) #[] #[]] 154 (0,0))]] B3 ?_;rintro w H' ⟨rfl,rfl⟩;exact ⟨[sr],_,⟨_,sr,V,W,V⟩,by simp;exact .refl _⟩
 · have e9:CF q c r=Kb (fun a b=>decide (a<b)) (bfQ q c).isSome (afQ q c).isSome (mQ q (bfQ q c)) (mQ q (afQ q c)) r:=by unfold CF;rw [As A0,As A0,As A0,B0 h]
   have e8:(CF q c r).1.rows=r.rows:=by rw [e9,NW]
   rw [show Gs q.kd=233 by rw [h];rfl,show JF g m q.kd=[I5 g] by rw [h];rfl];rw [<-e9]at P5;refine Ia P5 [sr,s2,[(m,.cells #[.func (.func 214) #[] #[]] 154 (0,0))]] (by simp;rw [<-D2,<-D2];exact Z3) ?_;rintro w H' ⟨rfl,rfl⟩;exact ⟨[sr],[(g,_)]++s2++_,⟨_,sr,rfl,by rw [e8];exact W,rfl⟩,by simp;exact Z3.symm⟩
 · have e9:CF q c r=Kb (fun a b=>decide (b<a)) (bfQ q c).isSome (afQ q c).isSome (mQ q (bfQ q c)) (mQ q (afQ q c)) r:=by unfold CF;rw [As A0,As A0,As A0,As A0,B0 h]
   have e8:(CF q c r).1.rows=r.rows:=by rw [e9,NW]
   rw [show Gs q.kd=233 by rw [h];rfl,show JF g m q.kd=[I5 m] by rw [h];rfl];rw [<-e9]at P6;refine Ia P6 [sr,s2,[(g,.cells #[.func (.func 212) #[] #[]] 154 (0,0))]] (by simp;rw [<-D2,<-D2];exact ((List.Perm.swap _ _ []).append_left _).trans Z3) ?_;rintro w H' ⟨rfl,rfl⟩;exact ⟨[sr],[(m,_)]++s2++_,⟨_,sr,rfl,by rw [e8];exact W,rfl⟩,by simp;exact Z3.symm⟩
 · rw [show Gs q.kd=216 by rw [h];rfl,show JF g m q.kd=[] by rw [h];rfl,show CF q c r=DU q c r by unfold CF;rw [As A0,As A0,As A0,As A0,As A0]]
   refine Ia P7 [[(g,.cells #[.func (.func 212) #[] #[]] 154 (0,0))],[(m,.cells #[.func (.func 214) #[] #[]] 154 (0,0))]] B3 ?_;rintro w H' ⟨E,I,rfl,h3,rfl⟩;exact ⟨[I],_,⟨E,I,V,h3,V⟩,by simp;exact .refl _⟩
def Et(q:QM)(c:Chg):Bool:=decide c.ok&&EA q c
def DR(q:QM)(c:Chg)(r:CP):CP×Bool:=if Et q c then(if(CF q c r).2 then((CF q c r).1,true)else(CP.none,false))else(r,true)
def JD(q:QM)(r:CP):List Chg->Option CP
 |[]=>some r
 |c::cs=>if(DR q c r).2 then JD q (DR q c r).1 cs else none
theorem SS(q:QM):∀(a:List Chg) (r:CP) (b:List Chg),JD q r (a++b)=(JD q r a).bind fun g=>JD q g b
 |[],_,_=>rfl
 |c::a,r,b=>by
  show(if(DR q c r).2 then JD q (DR q c r).1 (a++b)else none)=(if(DR q c r).2 then JD q (DR q c r).1 a else none).bind fun g=>JD q g b;split;· exact SS q a _ b
  · rfl
def Dp(q:QM)(r:CP)(cs:List Chg):CP×Bool×Bool:=match JD q r cs with
 |some r'=>(r',cs.any (Et q),true)
 |none=>(CP.none,true,false)
theorem jD(q:QM)(c:Chg)(r:CP):(DR q c r).1.rows.length<=r.rows.length+2:=by
 have h:=dF q c r;unfold DR;split
 · split
   · exact h
   · exact C2 _
 · exact cP _ _
variable{r:CP}
theorem dE(g:MIn q c){B:Int}(h:-B<=r.val/\r.val<=B)(h0:0<=B):-(B+2000000000)<=(CF q c r).1.val/\(CF q c r).1.val<=B+2000000000:=by
 obtain ⟨⟨m,h2⟩,E,G⟩:=g;have hx:∀lt b a,-(B+2000000000)<=(Kb lt b a (mQ q (bfQ q c)) (mQ q (afQ q c)) r).1.val/\(Kb lt b a (mQ q (bfQ q c)) (mQ q (afQ q c)) r).1.val<=B+2000000000:=fun lt b a=>by
  unfold Kb;split;· constructor<;>(simp only;omega)
  · split
    · simp only
      split<;>(constructor<;>omega)
    · constructor<;>(simp only;omega)
 unfold CF;split;· constructor<;>(simp only;omega)
 · split
   · simp only
     split<;>(constructor<;>omega)
   · split
     · constructor<;>(simp only;omega)
     · split
       · exact hx _ _ _
       · split
         · exact hx _ _ _
         · rw [dG];constructor<;>omega
theorem jC{B:Int}(h:-B<=r.val/\r.val<=B)(h0:0<=B):-(B+2000000000)<=(DR q c r).1.val/\(DR q c r).1.val<=B+2000000000:=by
 unfold DR;split
 · rename_i h9
   unfold Et at h9;rw [Fo]at h9;split;· exact dE (pJ q (HH h9.1)) h h0
   · constructor<;>(simp only [CP.none];omega)
 · constructor<;>(simp only;omega)
variable{cs:List Chg}{k:Nat}
theorem Kh{g:CP}{x:Chg}(h:JD q r (cs.take k)=some g)(hx:cs[k]?=some x):JD q r (cs.take (k+1))=if(DR q x g).2 then some (DR q x g).1 else none:=by
 rw [C8 hx,SS,h];show JD q g [x]=_
 unfold JD JD;rfl
theorem Q5(h:JD q r (cs.take k)=none):JD q r cs=none:=by
 rw [<-HW k cs,SS,h];rfl
theorem WH{x:Chg}(f:Chg->Bool)(hx:cs[k]?=some x):(cs.take (k+1)).any f=((cs.take k).any f||f x):=by
 rw [C8 hx,List.any_append,gC,gi,eR]
theorem Wj{q:QM}:∀(cs:List Chg) (r r':CP) (B:Int) (n:Nat),JD q r cs=some r'->(-B<=r.val/\r.val<=B)->0<=B->r.rows.length<=n->(-(B+2000000000*(cs.length:Int))<=r'.val/\r'.val<=B+2000000000*(cs.length:Int))/\r'.rows.length<=n+2*cs.length
 |[],r,r',B,n,h,h1,h2,h3=>by
  unfold JD at h;injection h with h
  subst h;simp only [KK];exact ⟨⟨by omega,by omega⟩,h3⟩
 |c::cs,r,r',B,n,h,h1,h2,h3=>by
  unfold JD at h;split at h
  · have g:=jC (q:=q) (c:=c) h1 h2
    have E:=jD q c r;have m:=Wj cs _ r' (B+2000000000) (n+2) h g A0 A0
    rw [D3];obtain ⟨⟨G,I⟩,J⟩:=m;refine ⟨⟨?_,?_⟩,by omega⟩<;>(push_cast;omega)
  · cases h
variable{rv:A4}{A:List AU}
set_option maxHeartbeats 1000000 in
theorem Sm(q:QM)(g:BS q)(c:Chg)(hr:Da A rv r.rows)(hn:r.rows.length<=100000000)(hv:-4000000000000000000<=r.val/\r.val<=4000000000000000000):Bz prog 158 #[.agg q.Ao6,.agg #[rv,I4 r.val,.bool r.fnd],.agg c.Ao4] [A] (fun w H'=>∃bf s',w= .tuple #[.agg #[bf,I4 (DR q c r).1.val,.bool (DR q c r).1.fnd],.bool (DR q c r).2]/\BZ 5 98 bf (DR q c r).1.rows.length (Ac (DR q c r).1.rows) s'/\H'=[s',A]):=by
 have cO:=mL;obtain ⟨pv,cv,rfl,_⟩:=id hr;refine Se func158 ntmps158 [0,1,2] ?_;intro u R;refine A1<|Ze (Bx q.Ao6)<|AF fun bq=>Ze (Bx #[.slice pv r.rows.length cv,I4 r.val,.bool r.fnd])<|AF fun br=>Ze (Bx c.Ao4)<|AF fun bc=>Ze (Al GW #[_,_,_])<|AF fun bo=>A3 Y<|A1<|Zh 0 Cp V rfl C4 Y<|Zl DO Y<|Zc [_] Y call87 Y V (Iw hr A0) ?_;rintro _ _ ⟨_,⟨s1,h1,rfl⟩,rfl⟩;obtain ⟨g1,c1,rfl⟩:=h1.form;refine Zh 0 Cp V rfl C4 Y<|Xe (Zs C4 Y Y V (hi:=by(simp;done)))<|AD<|Zq<|A1<|Zo Wh (A9 (cs:=#[_,_,_,_,_,_,_]) F2 CM Y B5 An)<|Zo Wh (A9 (cs:=#[_,_,_,_,_,_,_,_,_,_]) GC C5 Y B5 An)<|Xr [_,_] Y call157 Y V (Od q c) ?_;rw [show(decide (BS q)&&(decide c.ok&&EA q c))=Et q c by rw [CA g];rfl];refine Zv (Cj Y)<|Z0<|Zn [3,4,5,6,17] ?_;refine Zx<|Ad Y (fun ht=>?_) (fun ht=>?_);·
  have G:Et q c=false:=by simpa using ht
  refine A1<|Zo Wh (A9 (cs:=#[_,_,_]) CC B6 Y B5 An)<|Xe (Xw B6 _)<|A3 Y<|AA<|Zt<|CJ V results158 Y Wh (Ar CC B6 Wn (V)) Y (by
   have e9:DR q c r=(r,true):=by unfold DR;rw [G];rfl
   exact ⟨.slice g1 r.rows.length c1,s1,by rw [e9];rfl,by rw [e9];exact h1,rfl⟩)
 have G:Et q c=true:=by simpa using ht
 have X:c.ok:=by unfold Et at G;rw [Fo]at G;exact HH G.1
 refine AB<|Zx<|Zb [3,4,5,6] ?_;refine CL (e0:=[(3,_),(4,_),(5,_)]) (H0:=[s1]) (fun e H=>∃(U:Nat) (E:B7) (m:Nat) (O:List AU),(BZ 5 98 (.slice E (CF q c r).1.rows.length m) (CF q c r).1.rows.length (Ac (CF q c r).1.rows) O)/\e=[(8,I5 U),(9,.bool (CF q c r).2)]/\H=[[(U,.cells #[.slice E (CF q c r).1.rows.length m,I4 (CF q c r).1.val,.bool (CF q c r).1.fnd] 38 (0,0))],O]) Wp ?hx_2 ?hy_2
 case hx_2=>
  refine BJ (n:=16) (0::0::2::7::15::0::0::97::0::511::1023::2047::2047::0::12287::32767::[]) 25217 AG AG V<|A2 1 V (AV (off:=0) CN V rfl A5 Y)<|B2 2 V AE Y<|Fc 5 V Wh (A9 (cs:=#[_,_,_,_,_,_,_]) F2 CM Y B5 An)<|Fc 6 V Wh (A9 (cs:=#[_,_,_,_,_,_,_,_,_,_]) GC C5 Y B5 An)<|Fc 8 V Wh (A9 (cs:=#[_,_,_]) CC B6 Y B5 An)<|Zz (l:=[0,13])<|BE [true,true,true,true] [(8,(_,_)),(6,(_,_)),(5,(_,_)),(2,(_,_))] V rfl (Zw [] Y call182 Y V (OJ)) ?_ Co ?_;·
   rintro _ _ ⟨_,⟨mb,es,ck,lm,b5,b6,rfl,hm,hp,rfl⟩,rfl⟩;refine ⟨Zk (Zk (Zk (Zk (Ae)))),?_⟩;have W:=Vn hp hm.keys g.kind
   refine Fc 3 rfl Wh (QR IW Sh Sp hm (fun _ _=>trivial) (trivial) ((by rw [W];exact rfl:_=Value.agg #[.func (.func (IE q.kd)) #[] #[],.func (.func (Gs q.kd)) #[] (JF b5 b6 q.kd).toArray])) Y Y)<|A2 4 rfl (X6 Sf rfl isAgg255 Y rfl)<|Zz (l:=[7,13])<|BE [true,true,false,false,true] [(3,(_,_)),(8,(_,_)),(2,(_,_))] rfl rfl (Zw [_,_] Y call183 Y rfl (KN q g.2.1 (by have:=g.2.2.2;omega) c)) ?_ Co ?_;·
    rintro _ _ ⟨_,⟨p1,p2,bn,cu,rfl,J,K,rfl⟩,rfl⟩;refine BT<|Zz (l:=[9,13])<|BE [false,false,false] [] V rfl (Zw [_,_] Y (Ll g.kind) Y V (Lu q c g (pJ q X) J K b5 b6 r g1 c1 s1 h1 hn hv)) ?_ Co ?_;·
     rintro _ _ ⟨_,⟨ax,O,rfl,I,rfl⟩,rfl⟩;refine ⟨Ae,?_⟩;obtain ⟨E,m,rfl⟩:=I.form;refine A2 10 V (AJ Y)<|A2 11 V (Ch Y V)<|A2 12 V (Ch Y V)<|Zz (l:=[13])<|BE [] [] V rfl (Al GW #[_,_,_]) ?_ (fun _ _ h=>h.elim) Ay;rintro _ _ ⟨U,rfl,rfl⟩;refine BT<|Yw 14 32767 V (Xw B6 #[.slice E (CF q c r).1.rows.length m,I4 (CF q c r).1.val,.bool (CF q c r).1.fnd])<|C3<|A2 15 V (BF Y)<|Ao<|Zn [8,9,6] ?_;refine Aq (e':=[(8,_),(9,_)]) (by exact ⟨U,E,m,O,I,V,V⟩)
    refine BE [true,true,true] [(3,(_,_)),(8,(_,_)),(2,(_,_))] V rfl (Al GW #[_,_,_]) ?_ (fun _ _ h=>h.elim) Ay;rintro _ _ ⟨U,rfl,rfl⟩;refine BT<|Zz (l:=[9])<|BE [false,false,false] [] V rfl (Zw [_,_] Y (Ll g.kind) Y V (Lu q c g (pJ q X) J K b5 b6 r g1 c1 s1 h1 hn hv)) ?_ Co Ay;rintro _ _ ⟨_,⟨ax,O,rfl,I,rfl⟩,rfl⟩;refine ⟨Ae,?_⟩;obtain ⟨E,m,rfl⟩:=I.form;refine A2 10 V (AJ Y)<|A2 11 V (Ch Y V)<|A2 12 V (Ch Y V)<|Zz (l:=[14])<|BE [] [] V rfl (Xw B6 #[.slice E (CF q c r).1.rows.length m,I4 (CF q c r).1.val,.bool (CF q c r).1.fnd]) ?_ (fun _ _ h=>h.elim) Ay;rintro _ _ ⟨rfl,rfl⟩;refine BT<|A2 15 V (BF Y)<|Ao<|Zn [8,9,6] ?_;refine Aq (e':=[(8,_),(9,_)]) (by exact ⟨U,E,m,O,I,V,V⟩)
   refine BE [true,true,true,true,true] [(3,(_,_)),(8,(_,_)),(6,(_,_)),(5,(_,_)),(2,(_,_))] V rfl (Al GW #[_,_,_]) ?_ (fun _ _ h=>h.elim) Ay;rintro _ _ ⟨U,rfl,rfl⟩;refine BT<|Zz (l:=[7])<|BE [true,true,false,false,true] [(3,(_,_)),(8,(_,_)),(2,(_,_))] V rfl (Zw [_,_] Y call183 Y V (KN q g.2.1 (by have:=g.2.2.2;omega) c)) ?_ Co Ay;rintro _ _ ⟨_,⟨p1,p2,bn,cu,rfl,J,K,rfl⟩,rfl⟩;refine BT<|Zz (l:=[9])<|BE [false,false,false] [] V rfl (Zw [_,_] Y (Ll g.kind) Y V (Lu q c g (pJ q X) J K b5 b6 r g1 c1 s1 h1 hn hv)) ?_ Co Ay;rintro _ _ ⟨_,⟨ax,O,rfl,I,rfl⟩,rfl⟩;refine ⟨Ae,?_⟩;obtain ⟨E,m,rfl⟩:=I.form;refine A2 10 V (AJ Y)<|A2 11 V (Ch Y V)<|A2 12 V (Ch Y V)<|Zz (l:=[14])<|BE [] [] V rfl (Xw B6 #[.slice E (CF q c r).1.rows.length m,I4 (CF q c r).1.val,.bool (CF q c r).1.fnd]) ?_ (fun _ _ h=>h.elim) Ay;rintro _ _ ⟨rfl,rfl⟩;refine BT<|A2 15 V (BF Y)<|Ao<|Zn [8,9,6] ?_;refine Aq (e':=[(8,_),(9,_)]) (by exact ⟨U,E,m,O,I,V,V⟩)
  refine BE [true,true,true,true] [(8,(_,_)),(6,(_,_)),(5,(_,_)),(2,(_,_))] V rfl (Al GW #[_,_,_]) ?_ (fun _ _ h=>h.elim) Ay;rintro _ _ ⟨U,rfl,rfl⟩;refine BT<|Zz (l:=[0])<|BE [true,true,true,true] [(8,(_,_)),(6,(_,_)),(5,(_,_)),(2,(_,_))] V rfl (Zw [] Y call182 Y V (OJ)) ?_ Co Ay;rintro _ _ ⟨_,⟨mb,es,ck,lm,b5,b6,rfl,hm,hp,rfl⟩,rfl⟩;refine ⟨Zk (Zk (Zk (Zk (Ae)))),?_⟩;have W:=Vn hp hm.keys g.kind
  refine Fc 3 rfl Wh (QR IW Sh Sp hm (fun _ _=>trivial) (trivial) ((by rw [W];exact rfl:_=Value.agg #[.func (.func (IE q.kd)) #[] #[],.func (.func (Gs q.kd)) #[] (JF b5 b6 q.kd).toArray])) Y Y)<|A2 4 rfl (X6 Sf rfl isAgg255 Y rfl)<|Zz (l:=[7])<|BE [true,true,false,false,true] [(3,(_,_)),(8,(_,_)),(2,(_,_))] rfl rfl (Zw [_,_] Y call183 Y rfl (KN q g.2.1 (by have:=g.2.2.2;omega) c)) ?_ Co Ay;rintro _ _ ⟨_,⟨p1,p2,bn,cu,rfl,J,K,rfl⟩,rfl⟩;refine BT<|Zz (l:=[9])<|BE [false,false,false] [] V rfl (Zw [_,_] Y (Ll g.kind) Y V (Lu q c g (pJ q X) J K b5 b6 r g1 c1 s1 h1 hn hv)) ?_ Co Ay;rintro _ _ ⟨_,⟨ax,O,rfl,I,rfl⟩,rfl⟩;refine ⟨Ae,?_⟩;obtain ⟨E,m,rfl⟩:=I.form;refine A2 10 V (AJ Y)<|A2 11 V (Ch Y V)<|A2 12 V (Ch Y V)<|Zz (l:=[14])<|BE [] [] V rfl (Xw B6 #[.slice E (CF q c r).1.rows.length m,I4 (CF q c r).1.val,.bool (CF q c r).1.fnd]) ?_ (fun _ _ h=>h.elim) Ay;rintro _ _ ⟨rfl,rfl⟩;refine BT<|A2 15 V (BF Y)<|Ao<|Zn [8,9,6] ?_;refine Aq (e':=[(8,_),(9,_)]) (by exact ⟨U,E,m,O,I,V,V⟩)
 rintro _ _ ⟨U,E,m,O,I,rfl,rfl⟩;refine Zq<|A1<|Zm Y<|Zv (Cj Y)<|AD<|Ad Y (fun hk=>?_) (fun hk=>?_);·
  have af:(CF q c r).2=false:=by simpa using hk
  refine Zq<|Bl<|Zg<|Zv (BQ (vs:=[]) (cs:=#[_,_,_]) Y (Aa (pl:=#[(0,1),(1,1),(2,1)]) GW Cp (fun _=>by kernel_rfl) V))<|Xe (Xw B6 _)<|A3 Y<|AA<|Zt<|CJ V results158 Y Wh (Ar CC B6 Wn (V)) Y (by
   have e9:DR q c r=(CP.none,false):=by unfold DR;rw [G,B0 rfl,af];rfl
   exact ⟨.slice none 0 0,[],by rw [e9];rfl,by rw [e9];exact Ba 5 _,rfl⟩)
 have af:(CF q c r).2=true:=by simpa using hk
 refine AB<|Zx<|A1<|Zo Wh (A9 (cs:=#[_,_,_]) CC B6 Y B5 An)<|Xe (Xw B6 _)<|A3 Y<|AA<|CJ V results158 Y Wh (Ar CC B6 Wn (V)) Y (by
  have e9:DR q c r=((CF q c r).1,true):=by unfold DR;rw [G,B0 rfl,af];rfl
  exact ⟨.slice E _ m,O,by rw [e9];rfl,by rw [e9];exact I,rfl⟩)
set_option maxHeartbeats 1000000 in
theorem fI(q:QM)(hq:BS q)(p:Int)(qa:B7)(cap:Nat)(cs:List Chg){MC:List AU}(hC:Dq MC (.slice qa cs.length cap) cs)(o8:cs.length<=1000)(hr:Da A rv r.rows)(hn:r.rows.length<=10000000)(hv:-2000000000000000000<=r.val/\r.val<=2000000000000000000):Bz prog 103 #[.agg q.Ao6,.agg #[rv,I4 r.val,.bool r.fnd],.agg #[I4 p,.slice qa cs.length cap]] [A,MC] (fun w H'=>∃cu s',w= .tuple #[.agg #[cu,I4 (Dp q r cs).1.val,.bool (Dp q r cs).1.fnd],.bool (Dp q r cs).2.1,.bool (Dp q r cs).2.2]/\BZ 5 98 cu (Dp q r cs).1.rows.length (Ac (Dp q r cs).1.rows) s'/\H'=[s',A,MC]):=by
 have p8:=mL;obtain ⟨pv,cv,rfl,_⟩:=id hr;obtain ⟨pc,l9,kv,o9,cO⟩:=id hC;injection kv with hv1 hv2 hv3
 subst hv1 hv3;refine Se func103 ntmps103 [0,1,2] ?_;intro u R;refine A1<|Ze (Bx q.Ao6)<|AF fun bq=>Ze (Bx #[.slice pv r.rows.length cv,I4 r.val,.bool r.fnd])<|AF fun br=>Ze (Bx #[I4 p,.slice qa cs.length cap])<|AF fun bc=>Ze (Al GW #[_,_,_])<|AF fun bo=>Za Y<|A3 Y<|A1<|A3 Y<|A1<|Zh 0 Cp V rfl C4 Y<|Zl DO Y<|Zc [_] Y call87 Y V (Iw hr A0) ?_;rintro _ _ ⟨_,⟨s1,h1,rfl⟩,rfl⟩;obtain ⟨g1,c1,rfl⟩:=h1.form;refine Zh 0 Cp V rfl C4 Y<|Xe (Zs C4 Y Y V (hi:=by(simp;done)))<|AD<|Zq<|A1<|Zh 1 Ft V rfl Hx Y<|Zl J1 Y<|Zv (AP Fk Y)<|Zm Y<|Z0<|Zn [3,4,6,9,18,19,20] ?_;refine Zx<|AX<|Zb [9,20,3,4,6,18,19] ?_;refine BB (e0:=[(9,_),(20,_)]) (fun m e H=>∃(k:Nat) (g:CP) (gk:B7) (ck:Nat) (sk:List AU),m=cs.length -k/\(k<=cs.length/\JD q r (cs.take k)=some g/\BZ 5 98 (.slice gk g.rows.length ck) g.rows.length (Ac g.rows) sk)/\e=[(9,.bool ((cs.take k).any (Et q))),(20,I4 (k:Int))]/\H=[[(br,.cells #[.slice gk g.rows.length ck,I4 g.val,.bool g.fnd] 38 (0,0))],sk]) (by exact ⟨0,r,g1,c1,s1,rfl,⟨C2 _,by rw [Hj];rfl,h1⟩,rfl,rfl⟩) Wp ?_;rintro _ _ _ ⟨k,g,gk,ck,sk,rfl,⟨hk,I,bn⟩,rfl,rfl⟩;obtain ⟨gq,gm⟩:=Wj (cs.take k) r g 2000000000000000000 10000000 I hv A0 hn;have d9:(cs.take k).length=k:=by rw [zy];omega
 rw [d9]at gq gm;have af:=D6 bn A0
 refine A1<|Zv (Au Y Y)<|AD<|Zq<|Ak Y (fun bf=>?_) (fun bf=>?_);·
  obtain ⟨y,hy⟩:∃y,cs[k]?=some y:=⟨_,zn bf⟩;obtain ⟨g2,mR,U,T2,l8,rfl,gy,lv,ax⟩:=cO k y hy;refine AB<|Zx<|Zq<|AX<|A1<|Ap (AO Fk C5 Y Y A0)<|Ca (cs:=[(g2,.cells U T2 l8)]) (by simp [gy]) (A9 (cs:=y.Ao4) GC C5 Y A0 ax) V rfl<|Ze (Al K1 #[_,_,_,_,_,_,_,_,_,_])<|AF fun bx=>Xe (Xw C5 y.Ao4)<|AD<|A1<|Zm Y<|Zm Y<|Ah (t:=25) Y V (fun K=>?_) (fun K=>?_);·
   have e9:(cs.take (k+1)).any (Et q)=true:=by rw [WH _ hy,K];rfl
   refine A7 Y V<|A7 Y V<|A7 Y V<|Zv (AR Y Y)<|A3 Y<|A1<|AH Y<|Zn [3,4,6,9,11,18,19,20] ?_;refine Zx<|A1<|Zo Wh (A9 (cs:=#[_,_,_,_,_,_,_]) F2 CM Y B5 An)<|Zo Wh (A9 (cs:=#[_,_,_]) CC B6 Y B5 An)<|Zo Wh (A9 (cs:=#[_,_,_,_,_,_,_,_,_,_]) GC C5 Y B5 An)<|Zc [_,_,_] Y call158 Y V (Sm q hq y af A0 A0) ?_;rintro _ _ ⟨_,⟨kz,s3,rfl,X,rfl⟩,rfl⟩;obtain ⟨W,O,rfl⟩:=X.form;refine Zm Y<|Zd Y rfl<|Zd Y rfl<|Xe (BN B6 Y Y HU Wu (by exact (rfl:_=(#[.slice W (DR q y g).1.rows.length O,I4 (DR q y g).1.val,.bool (DR q y g).1.fnd]:AN))) Ek B5 (by exact BU _))<|A3 Y<|A1<|Zm Y<|Zv (Cj Y)<|AD<|Ad Y (fun G=>?_) (fun G=>?_);·
    have E:(DR q y g).2=false:=by simpa using G
    have J:Dp q r cs=(CP.none,true,false):=by unfold Dp;rw [Q5 (k:=k+1) (by rw [Kh I hy,E];rfl)]
    refine Zq<|Bl<|Zg<|Zv (BQ (vs:=[]) (cs:=#[_,_,_]) Y (Aa (pl:=#[(0,1),(1,1),(2,1)]) GW Cp (fun _=>by kernel_rfl) V))<|Xe (Xw B6 _)<|Za Y<|AH Y<|Zn [6,7,8] ?_;refine Zx<|AA<|Ab<|Zt<|Zt<|Ab<|Zt<|IV rfl results103 Y Wh (Ar CC B6 Wn (rfl)) Y Y (by exact ⟨.slice none 0 0,[],by rw [J];rfl,by rw [J];exact Ba 5 _,rfl⟩)
   have E:(DR q y g).2=true:=by simpa using G
   refine AB<|A8<|Zx<|Zg<|Ya (n:=1) Y Y<|Zm Y<|Z0<|Zn [9,20,3,4,6,18,19] ?_;refine AZ (e':=[(9,_),(20,_)]) (by exact ⟨k+1,(DR q y g).1,W,O,s3,rfl,⟨by omega,by rw [Kh I hy,B0 E],X⟩,by rw [e9],rfl⟩)
  have e9:(cs.take (k+1)).any (Et q)=Et q y:=by rw [WH _ hy,K];rfl
  refine DF Y Wh (A9 (cs:=#[_,_,_,_,_,_,_]) F2 CM Y B5 An) V rfl<|DF Y Wh (A9 (cs:=#[_,_,_,_,_,_,_,_,_,_]) GC C5 Y B5 An) V rfl<|Xr [_,_] Y call157 Y V (Od q y) ?_;rw [show(decide (BS q)&&(decide y.ok&&EA q y))=Et q y by rw [CA hq];rfl];refine Zv (AL Y Y)<|A3 Y<|A1<|AH Y<|Zn [3,4,6,9,11,18,19,20] ?_;refine Zx<|A1<|Zo Wh (A9 (cs:=#[_,_,_,_,_,_,_]) F2 CM Y B5 An)<|Zo Wh (A9 (cs:=#[_,_,_]) CC B6 Y B5 An)<|Zo Wh (A9 (cs:=#[_,_,_,_,_,_,_,_,_,_]) GC C5 Y B5 An)<|Zc [_,_,_] Y call158 Y V (Sm q hq y af A0 A0) ?_;rintro _ _ ⟨_,⟨kz,s3,rfl,X,rfl⟩,rfl⟩;obtain ⟨W,O,rfl⟩:=X.form;refine Zm Y<|Zd Y rfl<|Zd Y rfl<|Xe (BN B6 Y Y HU Wu (by exact (rfl:_=(#[.slice W (DR q y g).1.rows.length O,I4 (DR q y g).1.val,.bool (DR q y g).1.fnd]:AN))) Ek B5 (by exact BU _))<|A3 Y<|A1<|Zm Y<|Zv (Cj Y)<|AD<|Ad Y (fun G=>?_) (fun G=>?_);·
   have E:(DR q y g).2=false:=by simpa using G
   have J:Dp q r cs=(CP.none,true,false):=by unfold Dp;rw [Q5 (k:=k+1) (by rw [Kh I hy,E];rfl)]
   refine Zq<|Bl<|Zg<|Zv (BQ (vs:=[]) (cs:=#[_,_,_]) Y (Aa (pl:=#[(0,1),(1,1),(2,1)]) GW Cp (fun _=>by kernel_rfl) V))<|Xe (Xw B6 _)<|Za Y<|AH Y<|Zn [6,7,8] ?_;refine Zx<|AA<|Ab<|Zt<|Zt<|Ab<|Zt<|IV rfl results103 Y Wh (Ar CC B6 Wn (rfl)) Y Y (by exact ⟨.slice none 0 0,[],by rw [J];rfl,by rw [J];exact Ba 5 _,rfl⟩)
  have E:(DR q y g).2=true:=by simpa using G
  refine AB<|A8<|Zx<|Zg<|Ya (n:=1) Y Y<|Zm Y<|Z0<|Zn [9,20,3,4,6,18,19] ?_;refine AZ (e':=[(9,_),(20,_)]) (by exact ⟨k+1,(DR q y g).1,W,O,s3,rfl,⟨by omega,by rw [Kh I hy,B0 E],X⟩,by rw [e9],rfl⟩)
 have ek:k=cs.length:=by omega
 subst ek;rw [G0]at I⊢;have J:Dp q r cs=(g,cs.any (Et q),true):=by unfold Dp;rw [I]
 refine Aw<|Zt<|Zt<|AQ<|Zx<|A1<|Zo Wh (A9 (cs:=#[_,_,_]) CC B6 Y B5 An)<|Zm Y<|Xe (Xw B6 _)<|Za Y<|A3 Y<|AA<|IV rfl results103 Y Wh (Ar CC B6 Wn (rfl)) Y Y (by exact ⟨.slice gk _ ck,sk,by rw [J];rfl,by rw [J];exact bn,rfl⟩)
variable{rs:List AY}
theorem Oi(g:BL rs):rs.Nodup:=g.imp (by
 intro a b h e;subst e;unfold AY.lt2 at h;omega)
theorem Ot(g:BS q)(rs:List AY)(x:AY):x∈CX rs q↔x∈rs/\inQ q x=true:=by rw [(IP g rs).mem_iff,MD]
theorem SC(g:BS q)(m:BL rs):(CX rs q).Nodup:=(IP g rs).nodup_iff.2 ((Oi m).filter _)
theorem SB(G:BS q){o:List AY}(g:BL rs)(hn:o.Nodup)(E:∀x,x∈o↔x∈rs/\inQ q x=true)(h2:o.Pairwise (leV q.cl.toNat)):o=CX rs q:=by
 have h:=IP G rs;refine Nz g (f:=inQ q) (t:=q.tb) (fun r m=>(HH m).1) ?_ h h2 (F9 g _ _ _ _);exact (dr hn ((Oi g).filter _)).2 fun x=>by rw [E,MD]
variable{y:AY}
theorem PK(h:J3 q b x=some y):y=x/\b=true/\inQ q y=true:=by
 unfold J3 at h;split at h
 · rename_i h9
   rw [Fo]at h9;injection h with h
   subst h;exact ⟨V,h9⟩
 · cases h
theorem oU(h:J3 q b x=none)(g:b=true):inQ q x=false:=by
 unfold J3 at h;rw [g,To]at h;split at h;· cases h
 · simp_all
theorem Rm(g:BS q)(y x:AY):LW q y x=true↔DZ y q.cl.toNat<DZ x q.cl.toNat\/(DZ x q.cl.toNat=DZ y q.cl.toNat/\y.k<x.k):=by
 have hc:=g.2.1;have e:∀r,Bh r q.cl=DZ r q.cl.toNat:=fun r=>by
  have:=KT r q.cl.toNat A0;rwa [show((q.cl.toNat:Nat):Int)=q.cl by omega]at this
 unfold LW;rw [e,e,SP,Fo,I2,I2,I2]
theorem xe(E:BS q)(h:LW q y x=false):leV q.cl.toNat x y:=by
 have g:=Rm E y x;rw [h]at g;unfold leV;have:¬(DZ y q.cl.toNat<DZ x q.cl.toNat\/(DZ x q.cl.toNat=DZ y q.cl.toNat/\y.k<x.k)):=fun m=>by cases g.2 m
 omega
theorem xg(g:BS q)(h:LW q y x=true):leV q.cl.toNat y x:=by
 have:=(Rm g y x).1 h;unfold leV;omega
theorem Vq(E:BS q){L:List AY}(K:L.Pairwise (leV q.cl.toNat))(y:AY):∃A B,L=A++B/\RY (LW q y) L y=A++[y]++B/\(∀x∈A,LW q y x=false)/\(∀x∈B,LW q y x=true):=by
 cases h:L.findIdx? (LW q y)with
 |none=>
  refine ⟨L,[],by simp,?_,Ys.1 h,by simp⟩;unfold RY;rw [h];simp
 |some i=>
  obtain ⟨G,h2,I⟩:=W1.1 h;refine ⟨L.take i,L.drop i,(HW i L).symm,?_,fun x hx=>?_,fun x hx=>?_⟩
  · unfold RY
    rw [h];rfl
  · obtain ⟨j,g⟩:=H4 hx
    rw [Gk]at g;split at g
    · rename_i hji
      obtain ⟨O,rfl⟩:=zt.1 g;simpa using I j hji
    · cases g
  · have m:=K.sublist (List.drop_sublist i L)
    rw [RC G]at hx m;rcases E4.1 hx with rfl|hx
    · exact h2
    · have J:=(RT.1 m).1 x hx
      have U:=(Rm E y _).1 h2;rw [Rm E];unfold leV at J;omega
theorem ZI(g:AY->Bool)(L:List AY)(y:AY):(RY g L y).Perm (y::L):=by
 unfold RY;simp only [D2,SD];refine Z3.trans ?_;rw [HW]
theorem dZ(E:BS q){L:List AY}(g:L.Pairwise (leV q.cl.toNat))(y:AY):(RY (LW q y) L y).Pairwise (leV q.cl.toNat):=by
 obtain ⟨A,B,e,I,O,U⟩:=Vq E g y;rw [I];rw [e]at g;obtain ⟨J,h2,K⟩:=N4.1 g;rw [D2];refine N4.2 ⟨J,RT.2 ⟨fun x hx=>xg E (U x hx),h2⟩,fun a G b m=>?_⟩;rcases E4.1 m with rfl|m
 · exact xe E (O a G)
 · exact K a G b m
theorem xJ(c:Chg)(x:AY):Ka c x=true↔x.is c.t c.k:=by
 unfold Ka AY.is;rw [Fo,I2,I2]
theorem Sn(m:BS q)(g:BL rs)(E:Gb rs c):EM q c (CX rs q)=CX (Ei rs c) q:=by
 have J:((CX rs q).filter fun x=>!Ka c x).Pairwise (leV q.cl.toNat):=(F9 g _ _ _ _).sublist j8;have K:((CX rs q).filter fun x=>!Ka c x).Nodup:=(SC m g).filter _
 have G:∀x,x∈((CX rs q).filter fun x=>!Ka c x)↔(x∈rs/\¬x.is c.t c.k)/\inQ q x=true:=fun x=>by
  rw [MD,Ot m,N5,<-Bool.not_eq_true,xJ];constructor;· rintro ⟨⟨a,b⟩,d⟩;exact ⟨⟨a,d⟩,b⟩
  · rintro ⟨⟨a,d⟩,b⟩;exact ⟨⟨a,b⟩,d⟩
 unfold EM;cases ha:afQ q c with
 |none=>
  refine SB m (Jg g E) K (fun x=>?_) J;rw [G,GY g E];constructor;· rintro ⟨a,b⟩;exact ⟨.inl a,b⟩
  · rintro ⟨a|⟨a,rfl⟩,b⟩
    · exact ⟨a,b⟩
    · rw [oU ha a]at b;cases b
 |some y=>
  obtain ⟨hy,O,hi⟩:=PK ha;have I:y∉((CX rs q).filter fun x=>!Ka c x):=fun h=>((G y).1 h).1.2 (by rw [hy];exact ⟨rfl,rfl⟩)
  refine SB m (Jg g E) ((ZI _ _ y).nodup_iff.2 (ZD.2 ⟨I,K⟩)) (fun x=>?_) (dZ m J y);rw [(ZI _ _ y).mem_iff,E4,G,GY g E];constructor
  · rintro (rfl|⟨a,b⟩)
    · exact ⟨.inr ⟨O,hy⟩,hi⟩
    · exact ⟨.inl a,b⟩
  · rintro ⟨a|⟨a,e⟩,b⟩
    · exact .inr ⟨a,b⟩
    · exact .inl (e.trans hy.symm)
theorem ZZ(lt:Int->Int->Bool)(G:∀a b c,lt b a=false->lt c b=false->lt c a=false)(m:∀a,lt a a=false)(g:∀a b,lt a b=true->lt b a=false)(E:∀a b,lt a b=false->lt b a=false->a=b){l:List Int}{x:Int}(hx:x∈l)(h:∀y∈l,lt y x=false):Ej lt l=⟨[],x,true⟩:=by
 match l,hx,h with
 |z::l,hx,h=>
  obtain ⟨I,J,K,O⟩:=LM lt G m g z l;rw [O,E x I (K x hx) (h I J)]
theorem qi(lt:Int->Int->Bool)(l:List Int)(n:Int):Ej lt (l++[n])=⟨(Ej lt l).rows,if !(Ej lt l).fnd||lt n (Ej lt l).val then n else(Ej lt l).val,true⟩:=by
 unfold Ej;rw [RW];rfl
theorem l5(lt:Int->Int->Bool)(G:∀a b c,lt b a=false->lt c b=false->lt c a=false)(g:∀a,lt a a=false)(m:∀a b,lt a b=true->lt b a=false)(E:∀a b,lt a b=false->lt b a=false->a=b)(X:List Int)(b a:Option Int)
 (h:(Kb lt b.isSome a.isSome (b.getD 0) (a.getD 0) (Ej lt (X++b.toList))).2=true):(Kb lt b.isSome a.isSome (b.getD 0) (a.getD 0) (Ej lt (X++b.toList))).1=Ej lt (X++a.toList):=by
 have I:∀r:CP,r=Ej lt X->(if a.isSome then((⟨r.rows,if !r.fnd||lt (a.getD 0) r.val then a.getD 0 else r.val,true⟩:CP),true)else(r,true)).1=Ej lt (X++a.toList):=fun r hr=>by
  subst hr;cases a with
  |none=>simp
  |some n=>rw [fX,qi];rfl
 cases b with
 |none=>
  have e:Ej lt (X++(none:Option Int).toList)=Ej lt X:=by simp
  rw [e]at h⊢;exact I _ V
 |some o=>
  have K:∃x∈X++[o],(∀y∈X++[o],lt y x=false)/\Ej lt (X++[o])=⟨[],x,true⟩:=by
   cases hx:X++[o]with
   |nil=>simp at hx
   |cons z l=>exact LM lt G g m z l
  obtain ⟨x,W,h2,h3⟩:=K;rw [fX]at h⊢;rw [h3]at h⊢;unfold Kb at h⊢;simp only [Option.isSome_some,eL,To,ON,gA]at h⊢;cases hxo:lt x o with
  |false=>
   rw [hxo]at h;simp only [al,Ks]at h⊢;have O:=h2 o B3
   have J:=E x o hxo O;subst J;cases a with
   |none=>simp at h
   |some n=>
    simp only [Option.isSome_some,eL,To,cR,N5]at h;rw [fX,ZZ lt G g m E (x:=n) B3 fun y hy=>?_];· rfl
    · rcases DM.1 hy with hy|hy
      · exact G n x y h (h2 y (by simp [hy]))
      · rw [D0.1 hy];exact g n
  |true=>
   simp only [ON,Mn,Hb];have U:x∈X:=by
    rcases DM.1 W with h9|h9
    · exact h9
    · rw [D0.1 h9,g]at hxo;cases hxo
   have e:(⟨[],x,true⟩:CP)=Ej lt X:=(ZZ lt G g m E U fun y hy=>h2 y (by simp [hy])).symm;have:=I _ e
   simpa using this
theorem PP(q:QM)(a b:List AY):Cy q (a++b)=Cy q a++Cy q b:=Dg
theorem Z5(q:QM)(o:Option AY):Cy q o.toList=(o.map fun r=>Bh r q.bq).toList:=by cases o<;>rfl
theorem dQ(q:QM)(o:Option AY):mQ q o=(o.map fun r=>Bh r q.bq).getD 0:=by cases o<;>rfl
theorem gu(q:QM)(o:Option AY):o.isSome=(o.map fun r=>Bh r q.bq).isSome:=by cases o<;>rfl
theorem tV(o:Option Int):KU o.toList=o.getD 0:=by
 cases o with
 |none=>rfl
 |some x=>show x+0=x;omega
theorem Yn(J:BS q)(hs:BL rs)(hf:Gb rs c)(h7:q.kd≠7)(I:EA q c=true)(h:(CF q c (D5 rs q)).2=true):(CF q c (D5 rs q)).1=D5 (Ei rs c) q:=by
 obtain ⟨A,B,e1,e2⟩:=QG hf;have f1:rs.filter (inQ q)=A.filter (inQ q)++(bfQ q c).toList++B.filter (inQ q):=by
  conv=>lhs;rw [e1]
  rw [KB,KB,TI]
 have f2:(Ei rs c).filter (inQ q)=A.filter (inQ q)++(afQ q c).toList++B.filter (inQ q):=by
  rw [e2,KB,KB,TL]
 have p1:=IP J rs;have p2:=IP J (Ei rs c)
 rw [f1]at p1;rw [f2]at p2;have hk:=J.2.2.2
 have l1:=p1.length_eq;have l2:=p2.length_eq
 simp only [zq]at l1 l2;have m1:(Cy q (CX rs q)).Perm ((Cy q (A.filter (inQ q))++Cy q (B.filter (inQ q)))++((bfQ q c).map fun r=>Bh r q.bq).toList):=by
  rw [<-Z5,<-PP,<-PP];refine (p1.map _).trans (List.Perm.map _ ?_);simp only [D2];exact W6 _ RE
 have m2:(Cy q (CX (Ei rs c) q)).Perm ((Cy q (A.filter (inQ q))++Cy q (B.filter (inQ q)))++((afQ q c).map fun r=>Bh r q.bq).toList):=by
  rw [<-Z5,<-PP,<-PP];refine (p2.map _).trans (List.Perm.map _ ?_);simp only [D2];exact W6 _ RE
 have hx:∀lt:Int->Int->Bool,(∀a b c,lt b a=false->lt c b=false->lt c a=false)->(∀a,lt a a=false)->(∀a b,lt a b=true->lt b a=false)->(∀a b,lt a b=false->lt b a=false->a=b)->(Kb lt (bfQ q c).isSome (afQ q c).isSome (mQ q (bfQ q c)) (mQ q (afQ q c)) (Ej lt (Cy q (CX rs q)))).2=true->(Kb lt (bfQ q c).isSome (afQ q c).isSome (mQ q (bfQ q c)) (mQ q (afQ q c)) (Ej lt (Cy q (CX rs q)))).1=Ej lt (Cy q (CX (Ei rs c) q)):=fun lt K O U W h9=>by
  rw [PV lt K O U W (fun y=>m1.mem_iff),dQ,dQ,gu,gu]at h9⊢;rw [PV lt K O U W (fun y=>m2.mem_iff)];exact l5 lt K O U W _ _ _ h9
 unfold CF D5 EZ at h⊢;unfold EA at I;rcases (by omega:(q.kd=1\/q.kd=2)\/q.kd=3\/q.kd=4\/q.kd=5\/q.kd=6)with h8|h8|h8|h8|h8
 · have E:¬q.kd=3:=by omega
   have G:¬q.kd=4:=by omega
   have X:¬q.kd=5:=by omega
   have g6:¬q.kd=6:=by omega
   simp only [B0 h8,E,G,X,g6,h7,Hb,Sn J hs hf]
 · have m:¬(q.kd=1\/q.kd=2):=by omega
   simp only [As m,B0 h8]at I⊢;unfold Yy at I;cases hb:bfQ q c<;>cases ha:afQ q c<;>rw [hb,ha]at I<;>rw [hb]at l1<;>rw [ha]at l2<;>simp at I l1 l2⊢<;>omega
 · have m:¬(q.kd=1\/q.kd=2):=by omega
   have E:¬q.kd=3:=by omega
   simp only [As m,E,B0 h8,Hb];have s1:=NH m1
   have s2:=NH m2;rw [Y1,tV,<-dQ]at s1 s2;have g:∀l,MU l=KU l:=fun l=>by unfold MU;rw [NU];omega
   simp only [g];congr 1;omega
 · have m:¬(q.kd=1\/q.kd=2):=by omega
   have E:¬q.kd=3:=by omega
   have G:¬q.kd=4:=by omega
   simp only [As m,E,G,B0 h8,Hb]at h⊢;exact hx _ (fun a b c h1 h2=>by simp only [Nd]at*;omega) (fun a=>by simp) (fun a b h=>by simp only [I2,Nd]at*;omega) (fun a b h1 h2=>by simp only [Nd]at*;omega) h
 · have m:¬(q.kd=1\/q.kd=2):=by omega
   have E:¬q.kd=3:=by omega
   have G:¬q.kd=4:=by omega
   have X:¬q.kd=5:=by omega
   simp only [As m,E,G,X,B0 h8,Hb]at h⊢;exact hx _ (fun a b c h1 h2=>by simp only [Nd]at*;omega) (fun a=>by simp) (fun a b h=>by simp only [I2,Nd]at*;omega) (fun a b h1 h2=>by simp only [Nd]at*;omega) h
theorem GH(E:BL rs)(k:Int)(x:AY):Dz q (G9 rs q.ot) k=some x↔x∈rs/\x.is q.ot k:=by
 have O:∀a∈rs,∀b∈rs,a.is q.ot k->b.is q.ot k->a=b:=fun a J b K I h2=>by
  have G:=LK E J I;have m:=LK E K h2
  rw [G]at m;injection m
 have g:∀y,y∈G9 rs q.ot/\decide (y.t=q.ot/\y.k=k)=true↔y∈rs/\y.is q.ot k:=fun y=>by
  unfold G9 inT AY.is;rw [MD,I2,I2];constructor;· rintro ⟨⟨a,_⟩,b⟩;exact ⟨a,b⟩
  · rintro ⟨a,b⟩;exact ⟨⟨a,b.1⟩,b⟩
 unfold Dz;constructor
 · intro h
   exact (g x).1 ⟨eo h,by simpa using ft (p:=fun x:AY=>decide (x.t=q.ot/\x.k=k)) h⟩
 · intro h
   cases hf:(G9 rs q.ot).find? fun x=>decide (x.t=q.ot/\x.k=k)with
   |none=>
    have:=fb.1 hf x ((g x).2 h).1;exact absurd ((g x).2 h).2 this
   |some y=>
    have h2:=(g y).1 ⟨eo hf,by simpa using ft (p:=fun x:AY=>decide (x.t=q.ot/\x.k=k)) hf⟩;rw [O y h2.1 x h.1 h2.2 h.2]
def prQ(rs:List AY)(q:QM)(r:AY):Option Be:=(Dz q (G9 rs q.ot) (Bh r q.bq)).map fun x=>⟨r,x⟩
def yH(rs:List AY)(q:QM):List Be:=(CX rs q).filterMap (prQ rs q)
theorem ZF(rs:List AY)(q:QM):∀l:List AY,JL q l (G9 rs q.ot)=Dt (l.filterMap (prQ rs q))
 |[]=>rfl
 |r::l=>by
  have h:=ZF rs q l;unfold JL at h⊢;rw [HF,h,fN];unfold JK prQ;cases Dz q (G9 rs q.ot) (Bh r q.bq)<;>rfl
theorem dI(ps:List Be):FI (Dt ps)=ps:=by
 have G:(Dt ps).length=2*ps.length:=Ih ps;have g:∀(ps:List Be) (k:Nat) (p:Be),ps[k]?=some p->(Dt ps)[2*k]?=some p.l/\(Dt ps)[2*k+1]?=some p.r:=by
  intro ps;induction ps with
  |nil=>intro k p h;cases h
  |cons a ps ih=>
   intro k p h;have e:Dt (a::ps)=a.l::a.r::Dt ps:=rfl
   rw [e];cases k with
   |zero=>injection h with h;subst h;exact ⟨rfl,rfl⟩
   |succ k=>
    have:=ih k p h;rw [show 2*(k+1)=2*k+2 by omega];exact this
 apply OK;intro k;have m:(FI (Dt ps)).length=ps.length:=by rw [Kv];omega
 rcases DP k ps.length with h|h
 · obtain ⟨E,h2⟩:=g ps k _ (zn h)
   unfold FI;rw [FG,cH A0,L7,Lw,Lw,E,h2,zn h];rfl
 · rw [Mb A0,Mb h]
theorem uO{α:Type}{a b:Option α}(h:∀x,a=some x↔b=some x):a=b:=Option.ext h
theorem VN{r:AY}{p:Be}(h:prQ rs q r=some p):p.l=r/\Dz q (G9 rs q.ot) (Bh r q.bq)=some p.r:=by
 unfold prQ at h;cases hp:Dz q (G9 rs q.ot) (Bh r q.bq)with
 |none=>rw [hp]at h;cases h
 |some x=>rw [hp]at h;injection h with h;subst h;exact ⟨rfl,rfl⟩
theorem Tf{α β:Type}{f g:α->Option β}:∀{l:List α},(∀x∈l,f x=g x)->l.filterMap f=l.filterMap g
 |[],_=>rfl
 |x::l,h=>by rw [fN,fN,h x B3,Tf fun y hy=>h y (by simp [hy])]
theorem Nn{α β γ:Type}(f:α->Option β)(g:β->Option γ)(h:α->Option γ)(l:List α)(e:∀x∈l,(f x).bind g=h x):(l.filterMap f).filterMap g=l.filterMap h:=by
 rw [ie];exact Tf e
theorem qZ(g:Be->Bool)(A B:List Be)(y:Be)(m:∀x∈A,g x=false)(E:∀x∈B,g x=true):PQ g (A++B) y=A++[y]++B:=by
 have e:((A++B).findIdx? g).getD (A++B).length=A.length:=by
  rw [List.findIdx?_append,Ys.2 m];cases B with
  |nil=>simp
  |cons b B=>rw [List.findIdx?_cons,E b B3];simp
 unfold PQ;rw [e];simp
theorem Ym(hq:BS q)(J:BL rs)(W:Gb rs c)(h7:q.kd=7)(ht:EA q c=true)(h:(CF q c (D5 rs q)).2=true):(CF q c (D5 rs q)).1=D5 (Ei rs c) q:=by
 have kz:=Jg J W;have gy:∀rs,D5 rs q=⟨Dt (yH rs q),0,false⟩:=fun rs=>by
  unfold D5 EZ;simp only [show¬q.kd=3 by omega,show¬q.kd=4 by omega,show¬q.kd=5 by omega,show¬q.kd=6 by omega,h7,Ks,Hb];rw [ZF];rfl
 have o8:∀r,CF q c r=DU q c r:=fun r=>by
  unfold CF;simp only [show¬(q.kd=1\/q.kd=2) by omega,show¬q.kd=3 by omega,show¬q.kd=4 by omega,show¬q.kd=5 by omega,show¬q.kd=6 by omega,Hb]
 have p8:Xd q c=true\/c.t=q.ot:=by
  unfold EA at ht;simp only [show¬(q.kd=1\/q.kd=2) by omega,show¬q.kd=3 by omega,show¬q.kd=4 by omega,show¬(q.kd=5\/q.kd=6) by omega,Hb,SP,I2]at ht;exact ht
 rw [o8,gy]at h⊢;rw [gy];unfold DU at h⊢;split;· rename_i g;rw [B0 g]at h;cases h
 rename_i hto;rw [As hto]at h;simp only [dI]at h⊢;congr 2;have ek:c.t≠q.tb->CX (Ei rs c) q=CX rs q:=fun kv=>by
  refine (SB hq kz (SC hq J) (fun x=>?_) (F9 J _ _ _ _)).symm;rw [Ot hq,GY J W];constructor
  · rintro ⟨a,b⟩
    exact ⟨.inl ⟨a,fun g=>kv (g.1.symm.trans (HH b).1)⟩,b⟩
  · rintro ⟨⟨a,_⟩|⟨a,rfl⟩,b⟩
    · exact ⟨a,b⟩
    · exact absurd (HH b).1 kv
 unfold jnT yH at h⊢;by_cases E:c.t=q.ot
 · rw [B0 E]at h⊢
   rw [ek A0];have O:∀k,Dz q (G9 (Ei rs c) q.ot) k=if k=c.k then(if c.has then some ⟨c.t,c.k,c.n⟩else none)else Dz q (G9 rs q.ot) k:=fun k=>by
    apply uO;intro x;rw [GH kz,GY J W];unfold AY.is;split
    · rename_i m
      split
      · rename_i K
        rw [Option.some_inj];constructor
        · rintro ⟨⟨_,a⟩|⟨_,rfl⟩,b,d⟩
          · exact absurd ⟨b.trans E.symm,d.trans m⟩ a
          · rfl
        · rintro rfl;exact ⟨.inr ⟨K,rfl⟩,E,m.symm⟩
      · rename_i K
        constructor
        · rintro ⟨⟨_,a⟩|⟨a,_⟩,b,d⟩
          · exact absurd ⟨b.trans E.symm,d.trans m⟩ a
          · exact absurd a K
        · intro g;cases g
    · rename_i m
      rw [GH J];unfold AY.is;constructor
      · rintro ⟨⟨a,_⟩|⟨_,rfl⟩,b⟩
        · exact ⟨a,b⟩
        · exact absurd b.2.symm m
      · rintro ⟨a,b,d⟩
        exact ⟨.inl ⟨a,fun g=>m (d.symm.trans g.2)⟩,b,d⟩
   have af:c.had=true->∃x,Dz q (G9 rs q.ot) c.k=some x:=fun K=>by
    obtain ⟨r,hr,hi,_⟩:=Jq (W.1.trans K);exact ⟨r,(GH J c.k r).2 ⟨hr,by rw [<-E];exact hi⟩⟩
   have I:∀{k x},Dz q (G9 rs q.ot) k=some x->x.k=k:=fun g=>((GH J _ _).1 g).2.2;split
   · rename_i K
     rw [B0 K]at h;obtain ⟨x0,U⟩:=af h;rw [<-List.filterMap_eq_map];refine Nn _ _ _ _ fun r _=>?_;unfold prQ;rw [O,K];by_cases m:Bh r q.bq=c.k
     · rw [m,U,B0 rfl]
       simp only [L7,IF,Function.comp_apply,IA,I U,decide_true,Ks]
     · rw [As m]
       cases G:Dz q (G9 rs q.ot) (Bh r q.bq)with
       |none=>rfl
       |some x=>simp only [L7,IF,Function.comp_apply,IA,I G,m,X2,Mn,Hb]
   · rename_i K
     rw [As K]at h;rw [<-ij];refine Nn _ _ _ _ fun r _=>?_;unfold prQ;rw [O,As K];by_cases m:Bh r q.bq=c.k
     · rw [m,B0 rfl]
       obtain ⟨x0,U⟩:=af h;rw [U];simp [Option.guard,IA,I U]
     · rw [As m]
       cases G:Dz q (G9 rs q.ot) (Bh r q.bq)with
       |none=>rfl
       |some x=>simp [Option.guard,IA,I G,m]
 · rw [As E]at h⊢
   have hg:∀r,prQ (Ei rs c) q r=prQ rs q r:=fun r=>by unfold prQ;rw [gD W E]
   have mR:prQ (Ei rs c) q=prQ rs q:=funext hg;rw [mR];have o9:c.t=q.tb:=by
    rcases p8 with g|g
    · unfold Xd at g
      rw [SP]at g;rcases g with g|g
      · obtain ⟨y,hy⟩:=dy.1 g
        obtain ⟨e,_,hi⟩:=PK hy;rw [e]at hi;exact (HH hi).1
      · obtain ⟨y,hy⟩:=dy.1 g
        obtain ⟨e,_,hi⟩:=PK hy;rw [e]at hi;exact (HH hi).1
    · exact absurd g E
   have d9:((CX rs q).filterMap (prQ rs q)).filter (fun p=>!QX c.k p)=((CX rs q).filter fun x=>!Ka c x).filterMap (prQ rs q):=by
    rw [<-ij,<-ij,ie,ie];refine Tf fun r hr=>?_;have X:r.t=c.t:=((HH ((Ot hq rs r).1 hr).2).1).trans o9.symm
    by_cases m:r.k=c.k
    · cases G:prQ rs q r with
      |none=>simp [Option.guard,Ka,X,m]
      |some p=>simp [Option.guard,Ka,X,m,QX,(VN G).1]
    · cases G:prQ rs q r with
      |none=>simp [Option.guard,Ka,X,m,G]
      |some p=>simp [Option.guard,Ka,X,m,QX,(VN G).1,G]
   rw [d9]at h⊢;have gm:=Sn hq J W
   rw [<-gm];unfold EM;cases ha:afQ q c with
   |none=>rfl
   |some y=>
    rw [ha]at h;simp only [ha]at h⊢;have hm:mQ q (some y)=Bh y q.bq:=rfl
    rw [hm]at h⊢;have hL:((CX rs q).filter fun x=>!Ka c x).Pairwise (leV q.cl.toNat):=(F9 J _ _ _ _).sublist j8
    obtain ⟨A,B,e1,e2,hA,hB⟩:=Vq hq hL y;rw [e2];cases hfi:((CX rs q).filterMap (prQ rs q)).findIdx? (IA (Bh y q.bq))with
    |none=>
     have hi:I7 (IA (Bh y q.bq)) ((CX rs q).filterMap (prQ rs q))=-1:=by unfold I7;rw [hfi];rfl
     rw [hi,B0 AK]at h⊢;rw [Fo,I2]at h;obtain ⟨b,hb⟩:=dy.1 h.1;obtain ⟨eb,gq,l9⟩:=PK hb;have g:=h.2
     rw [hb]at g;have lv:b∈CX rs q:=by
      refine (Ot hq rs b).2 ⟨?_,l9⟩;obtain ⟨r,hr,hi,_,he⟩:=Jq (W.1.trans gq);have hv:=W.2 (W.1.trans gq)
      rw [he]at hv;have:b=r:=by
       rw [eb];obtain ⟨t,k,v⟩:=r;obtain ⟨h5,h6⟩:=hi;simp only at h5 h6 hv;subst h5 h6 hv;rfl
      rw [this];exact hr
     have bf:prQ rs q b=none:=by
      cases G:prQ rs q b with
      |none=>rfl
      |some p=>
       have ax:=Ys.1 hfi p (Z2.2 ⟨b,lv,G⟩);have l8:=(GH J _ _).1 (VN G).2
       unfold IA at ax;rw [Nd]at ax;exact absurd (l8.2.2.trans g) ax
     have bn:prQ rs q y=none:=by
      unfold prQ at bf⊢;rw [show Bh y q.bq=Bh b q.bq from g.symm];cases G:Dz q (G9 rs q.ot) (Bh b q.bq)with
      |none=>rfl
      |some x=>rw [G]at bf;cases bf
     rw [e1,eC,eC,eC];simp [bn]
    |some i=>
     obtain ⟨h1,h2,h3⟩:=W1.1 hfi;have hi:I7 (IA (Bh y q.bq)) ((CX rs q).filterMap (prQ rs q))=(i:Int):=by unfold I7;rw [hfi];rfl
     rw [hi,As A0]at h⊢;rw [M1,Lw,zn h1,eL];obtain ⟨r,hr,G⟩:=Z2.1 (jz h1);generalize ((CX rs q).filterMap (prQ rs q))[i]=p at h2 G;have h4:=(GH J _ _).1 (VN G).2
     unfold IA at h2;rw [I2]at h2;have bn:prQ rs q y=some ⟨y,p.r⟩:=by
      unfold prQ;rw [(GH J (Bh y q.bq) p.r).2 ⟨h4.1,h4.2.1,h2⟩];rfl
     rw [e1,eC,qZ];· simp [bn]
     · intro x hx
       obtain ⟨r9,cO,cu⟩:=Z2.1 hx;rw [(VN cu).1];exact hA r9 cO
     · intro x hx
       obtain ⟨r9,cO,cu⟩:=Z2.1 hx;rw [(VN cu).1];exact hB r9 cO
theorem dD(E:BS q)(G:BL rs)(m:Gb rs c)(I:EA q c=true)(h:(CF q c (D5 rs q)).2=true):(CF q c (D5 rs q)).1=D5 (Ei rs c) q:=by
 by_cases g:q.kd=7
 · exact Ym E G m g I h
 · exact Yn E G m g I h
def Gr(q:QM)(base:Int):Nat->CP×Int->List Bg->Option (CP×Int)
 |_,st,[]=>some st
 |i,st,x::l=>if(Dp q st.1 x.cs).2.2=true/\base<=9223372036854775806 -(i:Int)/\x.p=base+1+(i:Int)then Gr q base (i+1) ((Dp q st.1 x.cs).1,if(Dp q st.1 x.cs).2.1 then x.p else st.2) l else none
theorem SN(q:QM)(base:Int):∀(a:List Bg) (i:Nat) (st:CP×Int) (b:List Bg),Gr q base i st (a++b)=(Gr q base i st a).bind fun g=>Gr q base (i+a.length) g b
 |[],i,st,b=>rfl
 |x::a,i,st,b=>by
  show(if(Dp q st.1 x.cs).2.2=true/\base<=9223372036854775806 -(i:Int)/\x.p=base+1+(i:Int)then Gr q base (i+1) _ (a++b)else none)=(if(Dp q st.1 x.cs).2.2=true/\base<=9223372036854775806 -(i:Int)/\x.p=base+1+(i:Int)then Gr q base (i+1) _ a else none).bind _;split;· rw [SN q base a (i+1) _ b,D3,show i+(a.length+1)=i+1+a.length by omega]
  · rfl
variable{l:List Bg}
theorem JY{base:Int}{st g:CP×Int}{x:Bg}(h:Gr q base 0 st (l.take k)=some g)(hx:l[k]?=some x):Gr q base 0 st (l.take (k+1))=if(Dp q g.1 x.cs).2.2=true/\base<=9223372036854775806 -(k:Int)/\x.p=base+1+(k:Int)then some ((Dp q g.1 x.cs).1,if(Dp q g.1 x.cs).2.1 then x.p else g.2)else none:=by
 have m:=(zt.1 hx).1;rw [C8 hx,SN,h,zy,LO A0,C6];rfl
theorem NI{base:Int}{st:CP×Int}(h:Gr q base 0 st (l.take k)=none):Gr q base 0 st l=none:=by
 rw [<-HW k l,SN,h];rfl
def D7(q:QM)(r:CP)(base:Int)(l:List Bg):CP×Int×Bool:=match Gr q base 0 (r,base) l with
 |some st=>(st.1,st.2,true)
 |none=>(CP.none,0,false)
theorem RQ(h:(Dp q r cs).2.2=true):JD q r cs=some (Dp q r cs).1/\(Dp q r cs).2.1=cs.any (Et q):=by
 unfold Dp at*;split at h;· rename_i h9;rw [h9];exact ⟨rfl,rfl⟩
 · cases h
theorem gP{q:QM}{base:Int}:∀(l:List Bg) (i:Nat) (st st':CP×Int) (B:Int) (n:Nat),Gr q base i st l=some st'->(∀x∈l,x.cs.length<=1000)->(-B<=st.1.val/\st.1.val<=B)->0<=B->st.1.rows.length<=n->(-(B+2000000000000*(l.length:Int))<=st'.1.val/\st'.1.val<=B+2000000000000*(l.length:Int))/\st'.1.rows.length<=n+2000*l.length
 |[],i,st,st',B,n,h,hl,h1,h2,h3=>by
  unfold Gr at h;injection h with h
  subst h;simp only [KK];exact ⟨⟨by omega,by omega⟩,h3⟩
 |x::l,i,st,st',B,n,h,hl,h1,h2,h3=>by
  unfold Gr at h;split at h
  · rename_i h9
    have E:=Wj _ _ _ B n (RQ h9.1).1 h1 h2 h3;have G:=hl x B3
    have m:=gP l (i+1) _ st' (B+2000000000000) (n+2000) h (fun y hy=>hl y (by simp [hy])) ⟨by simp only;omega,by simp only;omega⟩ A0 (by simp only;omega);rw [D3];obtain ⟨⟨I,J⟩,g⟩:=m;refine ⟨⟨?_,?_⟩,by omega⟩<;>(push_cast;omega)
  · cases h
set_option maxHeartbeats 1000000 in
theorem YN(q:QM)(hq:BS q)(base:Int)(hb:-9223372036854775808<=base/\base<=9223372036854775807){lv:A4}{ML:List AU}(hL:Cw ML lv l)(p8:l.length<=1000)(O:∀x∈l,x.cs.length<=1000)(hr:Da A rv r.rows)(hn:r.rows.length<=1000000)(hv:-1000000000000000000<=r.val/\r.val<=1000000000000000000):Bz prog 46 #[.agg q.Ao6,.agg #[rv,I4 r.val,.bool r.fnd],I4 base,lv] [A,ML] (fun w H'=>∃af s',w= .tuple #[.agg #[af,I4 (D7 q r base l).1.val,.bool (D7 q r base l).1.fnd],I4 (D7 q r base l).2.1,.bool (D7 q r base l).2.2]/\BZ 5 98 af (D7 q r base l).1.rows.length (Ac (D7 q r base l).1.rows) s'/\H'=[s',A,ML]):=by
 have pg:=mL;obtain ⟨pv,cv,rfl,_⟩:=id hr;obtain ⟨pl,l9,rfl,⟨p9,o9⟩,d9⟩:=id hL;refine Se func46 ntmps46 [0,1,2,3] ?_;intro u R;refine A1<|Ze (Bx q.Ao6)<|AF fun bq=>Ze (Bx #[.slice pv r.rows.length cv,I4 r.val,.bool r.fnd])<|AF fun br=>Ze (Al GW #[_,_,_])<|AF fun bo=>Za Y<|A3 Y<|A1<|Zm Y<|A3 Y<|A1<|Zh 0 Cp V rfl C4 Y<|Zl DO Y<|Zc [_] Y call87 Y V (Iw hr A0) ?_;rintro _ _ ⟨_,⟨s1,h1,rfl⟩,rfl⟩;obtain ⟨g1,c1,rfl⟩:=h1.form;refine Zh 0 Cp V rfl C4 Y<|Xe (Zs C4 Y Y V (hi:=by(simp;done)))<|AD<|Zq<|A1<|Zm Y<|Zv (AP Fl Y)<|Zm Y<|Z0<|Zn [2,4,5,8,11,22,23,24] ?_;refine Zx<|AX<|Zb [11,24,2,4,5,8,22,23] ?_;refine BB (e0:=[(11,_),(24,_)]) (fun m e H=>∃(k:Nat) (g:CP×Int) (gk:B7) (ck:Nat) (sk:List AU),m=l.length -k/\(k<=l.length/\Gr q base 0 (r,base) (l.take k)=some g/\BZ 5 98 (.slice gk g.1.rows.length ck) g.1.rows.length (Ac g.1.rows) sk)/\e=[(11,I4 g.2),(24,I4 (k:Int))]/\H=[[(br,.cells #[.slice gk g.1.rows.length ck,I4 g.1.val,.bool g.1.fnd] 38 (0,0))],sk]) (by exact ⟨0,(r,base),g1,c1,s1,rfl,⟨C2 _,by rw [Hj];rfl,h1⟩,rfl,rfl⟩) Wp ?_;rintro _ _ _ ⟨k,g,gk,ck,sk,rfl,⟨hk,E,X⟩,rfl,rfl⟩;obtain ⟨gy,gq⟩:=gP (l.take k) 0 (r,base) g 1000000000000000000 1000000 E (fun x hx=>O x (HI hx)) hv A0 hn;have gm:(l.take k).length=k:=by rw [zy];omega
 rw [gm]at gy gq;have cO:=D6 X A0
 refine A1<|Zv (Au Y Y)<|AD<|Zq<|Ak Y (fun W=>?_) (fun W=>?_);·
  obtain ⟨x,hx⟩:∃x,l[k]?=some x:=⟨_,zn W⟩;have kz:=O x (Cd hx)
  obtain ⟨cu,g2,o8,K,T2,l8,rfl,kv,mR,U⟩:=d9 k x hx;refine AB<|Zx<|Zq<|AX<|A1<|Zm Y<|Ap (AO Fl E6 Y Y A0)<|Ca (cs:=[(g2,.cells K T2 l8)]) (by simp [kv]) (A9 (cs:=#[_,_]) HX E6 Y A0 U) V rfl<|Ze (Al Pc #[_,_])<|AF fun bx=>Za Y<|Xe (Xw E6 #[I4 x.p,.slice x.q x.cs.length x.cap])<|AD<|A1<|Zo Wh (A9 (cs:=#[_,_,_,_,_,_,_]) F2 CM Y B5 An)<|Zo Wh (A9 (cs:=#[_,_,_]) CC B6 Y B5 An)<|Zo Wh (A9 (cs:=#[_,_]) HX E6 Y B5 An)<|Zc [_,_,_] Y call103 Y V (fI q hq x.p x.q x.cap x.cs cu kz cO A0 A0) ?_;rintro _ _ ⟨_,⟨pq,s3,rfl,h3,rfl⟩,rfl⟩;obtain ⟨g3,c3,rfl⟩:=h3.form;refine Zm Y<|Zd Y V<|Zd Y V<|Zd Y V<|Ze (Al GW #[_,_,_])<|AF fun bn=>Xe (Xw B6 #[.slice g3 (Dp q g.1 x.cs).1.rows.length c3,I4 (Dp q g.1 x.cs).1.val,.bool (Dp q g.1 x.cs).1.fnd])<|Za Y<|AH Y<|Zn [2,4,5,8,11,12,13,14,15,16,22,23,24] ?_;refine Zx<|Zq<|A1<|Zm Y<|Zv (Cj Y)<|Zm Y<|Ah (t:=39) Y V (fun J=>?_) (fun J=>?_);·
   have I:(Dp q g.1 x.cs).2.2=false:=by simpa using J
   refine A7 Y V<|A7 Y V<|A7 Y V<|A7 Y V<|Zv (AR Y Y)<|Zm Y<|A7 Y V<|A7 Y V<|A7 Y V<|A7 Y V<|A7 Y V<|A7 Y V<|A7 Y V<|Zv (AR Y Y)<|Z0<|Zn [2,4,5,8,11,13,14,15,22,23,24,53] ?_;refine Zx<|CQ Y<|Zq<|Bl ?_;have G:D7 q r base l=(CP.none,0,false):=by unfold D7;rw [NI (k:=k+1) (by rw [JY E hx,As (by(rw [I];rintro ⟨h,_⟩;cases h;done))])]
   refine Zg<|Zv (BQ (vs:=[]) (cs:=#[_,_,_]) Y (Aa (pl:=#[(0,1),(1,1),(2,1)]) GW Cp (fun _=>by kernel_rfl) rfl))<|Xe (Xw B6 _)<|Za Y<|A3 Y<|AA<|Zt<|Ab<|Zt<|Zt<|Ab<|Zt<|IV rfl results46 Y Wh (Ar CC B6 Wn (rfl)) Y Y (by exact ⟨.slice none 0 0,[],by rw [G];rfl,by rw [G];exact Ba 5 _,rfl⟩)
  have I:(Dp q g.1 x.cs).2.2=true:=by simpa using J
  refine Zf Y Y<|Zf Y Y<|DV Y (Bo (m:=9223372036854775806) Y Y A0 A0) V rfl ?_;refine Yg (EI Y Y)<|Zv (AL Y Y)<|Zm Y<|Ai (t:=45) Y V (fun ax=>?_) (fun ax=>?_);·
   refine A7 Y V<|A7 Y V<|A7 Y V<|A7 Y V<|A7 Y V<|A7 Y V<|A7 Y V<|Zv (AR Y Y)<|Z0<|Zn [2,4,5,8,11,13,14,15,22,23,24,53] ?_;refine Zx<|CQ Y<|Zq<|Bl ?_;have G:D7 q r base l=(CP.none,0,false):=by unfold D7;rw [NI (k:=k+1) (by rw [JY E hx,As (by(rintro ⟨_,h8,h9⟩;omega))])]
   refine Zg<|Zv (BQ (vs:=[]) (cs:=#[_,_,_]) Y (Aa (pl:=#[(0,1),(1,1),(2,1)]) GW Cp (fun _=>by kernel_rfl) rfl))<|Xe (Xw B6 _)<|Za Y<|A3 Y<|AA<|Zt<|Ab<|Zt<|Zt<|Ab<|Zt<|IV rfl results46 Y Wh (Ar CC B6 Wn (rfl)) Y Y (by exact ⟨.slice none 0 0,[],by rw [G];rfl,by rw [G];exact Ba 5 _,rfl⟩)
  refine Yf 0 Ft V rfl A5 Y<|Yl AE Y<|Zf Y Y<|DV Y (EU Y Y (IntWalk.i64_in _ A0)) V rfl ?_;refine Zf Y Y<|DV Y (EU Y Y (IntWalk.i64_in _ A0)) V rfl ?_;refine Yg (IC Y Y)<|Zv (AL Y Y)<|Z0<|Zn [2,4,5,8,11,13,14,15,22,23,24,53] ?_;refine Zx<|Ak Y (fun bf=>?_) (fun bf=>?_);·
   refine Zq<|Bl ?_;have G:D7 q r base l=(CP.none,0,false):=by unfold D7;rw [NI (k:=k+1) (by rw [JY E hx,As (by(rintro ⟨_,h8,h9⟩;omega))])]
   refine Zg<|Zv (BQ (vs:=[]) (cs:=#[_,_,_]) Y (Aa (pl:=#[(0,1),(1,1),(2,1)]) GW Cp (fun _=>by kernel_rfl) rfl))<|Xe (Xw B6 _)<|Za Y<|A3 Y<|AA<|Zt<|Ab<|Zt<|Zt<|Ab<|Zt<|IV rfl results46 Y Wh (Ar CC B6 Wn (rfl)) Y Y (by exact ⟨.slice none 0 0,[],by rw [G];rfl,by rw [G];exact Ba 5 _,rfl⟩)
  refine AB<|Zx<|A1<|Zo Wh (A9 (cs:=#[_,_,_]) CC B6 Y B5 An)<|Xe (BN B6 Y Y HU Wu An Ek B5 (by exact BU _))<|AD<|A1<|Zm Y<|AD<|Ad Y (fun ht=>?_) (fun ht=>?_);·
   refine Zg<|Zh 0 Ft V rfl A5 Y<|Zl AE Y<|AH Y<|A8<|Zx<|Zg<|Ya (n:=1) Y Y<|Zm Y<|Z0<|Zn [11,24,2,4,5,8,22,23] ?_;refine AZ (e':=[(11,_),(24,_)]) (by exact ⟨k+1,((Dp q g.1 x.cs).1,x.p),g3,c3,s3,rfl,⟨by omega,by rw [JY E hx,B0 ⟨I,by omega,by omega⟩,ht];rfl,h3⟩,rfl,rfl⟩)
  refine AB<|A8<|Zx<|Zg<|Ya (n:=1) Y Y<|Zm Y<|Z0<|Zn [11,24,2,4,5,8,22,23] ?_;refine AZ (e':=[(11,_),(24,_)]) (by exact ⟨k+1,((Dp q g.1 x.cs).1,g.2),g3,c3,s3,rfl,⟨by omega,by rw [JY E hx,B0 ⟨I,by omega,by omega⟩,ht];rfl,h3⟩,rfl,rfl⟩)
 have ek:k=l.length:=by omega
 subst ek;rw [G0]at E;have G:D7 q r base l=(g.1,g.2,true):=by unfold D7;rw [E]
 refine Aw<|Zt<|Zt<|AQ<|Zx<|A1<|Zo Wh (A9 (cs:=#[_,_,_]) CC B6 Y B5 An)<|Zm Y<|Xe (Xw B6 _)<|Za Y<|A3 Y<|AA<|IV rfl results46 Y Wh (Ar CC B6 Wn (rfl)) Y Y (by exact ⟨.slice gk _ ck,sk,by rw [G];rfl,by rw [G];exact X,rfl⟩)
theorem jB(E:BS q)(G:BL rs)(m:Gb rs c)(g:c.ok)(h:(DR q c (D5 rs q)).2=true):(DR q c (D5 rs q)).1=D5 (Ei rs c) q:=by
 unfold DR at h⊢;cases ht:Et q c with
 |false=>
  rw [As AK];unfold Et at ht;rw [CA g,To]at ht;exact (aB E m ht).symm
 |true=>
  rw [ht,B0 rfl]at h;rw [B0 rfl];unfold Et at ht;rw [Fo]at ht;split at h
  · rename_i h9
    rw [B0 h9];exact dD E G m ht.2 h9
  · cases h
theorem V7{q:QM}(G:BS q){rs:List AY}{cs:List Chg}(I:BL rs)(m:sJ cs)(E:∀c∈cs,Gb rs c)(g:∀c∈cs,c.ok):∀i,i<=cs.length->∀r,JD q (D5 rs q) (cs.take i)=some r->r=D5 (Dc rs (cs.take i)) q
 |0,_,r,h=>by
  rw [Hj]at h⊢;injection h with h
  exact h.symm
 |i+1,hi,r,h=>by
  obtain ⟨c,hc⟩:∃c,cs[i]?=some c:=⟨_,zn A0⟩;obtain ⟨J,h2⟩:=Jr I m E i A0;cases hr:JD q (D5 rs q) (cs.take i)with
  |none=>
   have:=Q5 (cs:=cs.take (i+1)) (k:=i) (q:=q) (r:=D5 rs q) (by rw [SR,LO A0];exact hr);rw [this]at h;cases h
  |some rk=>
   have e:=V7 G I m E g i A0 rk hr;rw [Kh hr hc,e]at h;split at h
   · rename_i h9
     injection h with h
     rw [<-h,EO rs cs i c hc];exact jB G J (h2 i c (B8 _) hc) (g c (Cd hc)) h9
   · cases h
theorem nK(g:BS q){p rp:Int}(E:BL rs)(h:Nt rs p rp cs)(m:JD q (D5 rs q) cs=some r):r=D5 (Dc rs cs) q:=by
 have:=V7 g E (Qg h.ok.ord) h.fit (fun c hc=>by obtain ⟨i,hi⟩:=H4 hc;exact h.ok.all i c hi) cs.length (B8 _) r (by rw [G0];exact m);rwa [G0]at this
def MR(q:QM)(x:Bg):Bool:=x.cs.any (Et q)
theorem j4{x:Bg}(h:∀c∈x.cs,c.ok):MR q x=x.cs.any (EA q):=by
 unfold MR;rw [fx,eM,eM];constructor
 · rintro ⟨c,hc,g⟩
   unfold Et at g;rw [Fo]at g;exact ⟨c,hc,g.2⟩
 · rintro ⟨c,hc,g⟩
   exact ⟨c,hc,by unfold Et;rw [CA (h c hc),g];rfl⟩
structure sG(q:QM)(l:List Bg)(base k:Nat)(s:Int):Prop where
 le:(base:Int)<=s/\s<=((base+k:Nat):Int)
 at_:s≠(base:Int)->∃(j:Nat) (x:Bg),(j:Int)+1=s/\l[j]?=some x/\MR q x=true
 no:∀(j:Nat) (x:Bg),s<=(j:Int)->j<base+k->l[j]?=some x->MR q x=false
theorem Q4{q:QM}(U:BS q){l:List Bg}(I:DN l){base:Nat}(hb:base<=l.length):∀k,base+k<=l.length->∀st,Gr q (base:Int) 0 (D5 (Bd (l.take base)) q,(base:Int)) ((l.drop base).take k)=some st->st.1=D5 (Bd (l.take (base+k))) q/\sG q l base k st.2
 |0,_,st,h=>by
  rw [Hj]at h;injection h with h
  subst h;exact ⟨V,⟨by simp only;omega,fun h=>absurd V h,fun j x E h2=>by simp only at E;omega⟩⟩
 |k+1,hk,st,h=>by
  obtain ⟨x,hx⟩:∃x,l[base+k]?=some x:=⟨_,zn A0⟩;have J:(l.drop base)[k]?=some x:=by rw [Hh];exact hx
  obtain ⟨O,_⟩:=I _ x hx;have hp:x.p=((base+k:Nat):Int)+1:=O.pos
  cases hr:Gr q (base:Int) 0 (D5 (Bd (l.take base)) q,(base:Int)) ((l.drop base).take k)with
  |none=>
   have:=NI (l:=(l.drop base).take (k+1)) (k:=k) (q:=q) (base:=(base:Int)) (st:=(D5 (Bd (l.take base)) q,(base:Int))) (by rw [SR,LO A0];exact hr);rw [this]at h;cases h
  |some sk=>
   obtain ⟨m,e2⟩:=Q4 U I hb k A0 sk hr;rw [JY hr J]at h;split at h
   · rename_i h9
     injection h with h
     subst h;have G:=RQ h9.1
     have E:=(I.rows (base+k) A0).1;rw [m]at G;refine ⟨?_,?_⟩
     · have:=nK U E O G.1
       rw [show base+(k+1)=base+k+1 by omega,C8 hx,Ew,<-this,m]
     · have hT:(Dp q sk.1 x.cs).2.1=MR q x:=by rw [m];exact G.2
       simp only [hT];obtain ⟨⟨a1,W⟩,X,a4⟩:=e2;cases ht:MR q x with
       |true=>
        simp only [Ks];refine ⟨by omega,fun _=>⟨base+k,x,hp.symm,hx,ht⟩,fun j y K h6=>by omega⟩
       |false=>
        simp only [Mn,Hb];refine ⟨by push_cast at W⊢;omega,X,fun j y K h6 g=>?_⟩;rcases DP j (base+k)with h8|h8
        · exact a4 j y K h8 g
        · obtain rfl:j=base+k:=by omega
          rw [hx]at g;injection g with g
          rw [<-g];exact ht
   · cases h
theorem Yj(g:1<=q.kd/\q.kd<=4)(c:Chg)(r:CP):(DR q c r).2=true:=by
 have:(CF q c r).2=true:=by
  unfold CF;split;· rfl
  · split
    · rfl
    · rw [B0 A0]
 unfold DR;rw [B0 this];split<;>rfl
theorem SQ{q:QM}(g:1<=q.kd/\q.kd<=4):∀(cs:List Chg) (r:CP),∃m,JD q r cs=some m
 |[],r=>⟨r,rfl⟩
 |c::cs,r=>by
  unfold JD;rw [B0 (Yj g c r)];exact SQ g cs _
theorem SL{q:QM}(m:1<=q.kd/\q.kd<=4){base:Int}:∀(l:List Bg) (i:Nat) (st:CP×Int),(∀(k:Nat) (x:Bg),l[k]?=some x->base<=9223372036854775806 -((i+k:Nat):Int)/\x.p=base+1+((i+k:Nat):Int))->∃g,Gr q base i st l=some g
 |[],i,st,_=>⟨st,rfl⟩
 |x::l,i,st,h=>by
  have h0:=h 0 x rfl;rw [OR]at h0;obtain ⟨G,E⟩:=SQ m x.cs st.1;unfold Gr;rw [B0 ⟨by unfold Dp;rw [E],h0.1,h0.2⟩];exact SL m l (i+1) _ fun k y hy=>by
   have:=h (k+1) y hy;rwa [show i+(k+1)=i+1+k by omega]at this
theorem wX(q:QM)(m:BS q):BC prog 113 #[.agg q.Ao6] [] (.tuple #[I4 q.tb,I4 q.cl,I4 q.lo,I4 q.hi]):=by
 refine Se func113 ntmps113 [0] ?_;intro u R;refine A1<|Ze (Bx q.Ao6)<|AF fun bq=>Za Y<|Za Y<|Za Y<|A3 Y<|Zq<|A1<|Zo Wh (A9 (cs:=#[_,_,_,_,_,_,_]) F2 CM Y B5 An)<|Xr [_] Y call33 Y V (KC q)<|Zv (C9 Y)<|AD<|Ad Y (fun g=>?_) (fun g=>?_);·
  exfalso;simp [m]at g
 refine AB<|Zx<|Zq<|BJ (n:=12) (0::1::0::4::0::16::0::64::3::271::831::2047::[]) 0 AG AG V<|A2 0 V (AV (off:=1) CN V rfl A5 Y)<|B2 1 V AE Y<|A2 2 V (AV (off:=2) CN V rfl A5 Y)<|B2 3 V AE Y<|A2 4 V (AV (off:=3) CN V rfl A5 Y)<|B2 5 V AE Y<|A2 6 V (AV (off:=4) CN V rfl A5 Y)<|B2 7 V AE Y<|A2 8 V (BF Y)<|A2 9 V (BF Y)<|A2 10 V (BF Y)<|A2 11 V (BF Y)<|Ao<|Zn [2,3,4,5] ?_;refine Zx<|AA<|uU V results113 Y Y Y Y (by exact ⟨V,V⟩)
theorem xE(q:QM)(g:BS q):BC prog 49 #[.agg q.Ao6] [] (.agg #[I4 q.tb,I4 q.cl,I4 q.lo,I4 q.hi]):=by
 refine Se func49 ntmps49 [0] ?_;intro u R;refine A1<|Ze (Bx q.Ao6)<|AF fun bq=>Ze (Al cX #[_,_,_,_])<|AF fun m=>AD<|A1<|Zo Wh (A9 (cs:=#[_,_,_,_,_,_,_]) F2 CM Y B5 An)<|Xr [_] Y call113 Y V (wX q g)<|Zm Y<|Zd Y V<|Zd Y V<|Zd Y V<|Zd Y V<|Zh 0 LS V rfl A5 Y<|Xe (Zs A5 Y Y V (hi:=by decide))<|Zh 1 LS V rfl A5 Y<|Xe (Zs A5 Y Y V (hi:=by(simp;done)))<|Zh 2 LS V rfl A5 Y<|Xe (Zs A5 Y Y V (hi:=by(simp;done)))<|Zh 3 LS V rfl A5 Y<|Xe (Zs A5 Y Y V (hi:=by(simp;done)))<|Z0<|Zn [2] ?_;refine Zx<|A1<|Zo Wh (A9 (cs:=#[_,_,_,_]) isAgg114 V2 Y B5 (BA rfl))<|Xe (BN V2 Y Y HU Wu (DD rfl) Ek B5 (by exact BU _))<|AD<|AA<|DI rfl results49 Y Wh (Ar isAgg114 V2 Wn (BA rfl)) dj
variable{v:A4}
theorem Ni{P:Program}{env:Env}{d:Option Nat}{ty:AM}{pos:String}{af:Array Edge}{g:Option (Nat×Bool)}{x:Operand}{m at_:AM}{ok:Bool}{r:A4}(hx:∀a,ev a env x=v)(E:∀w:A6,(Instr.typeAssert v m at_ ok).run P w= .ok r w):OpP P ⟨d,.typeAssert x m at_ ok,ty,pos,af,g⟩ env [] r:=fun a w _=>by
 simp [execOp,hx a,E w]
theorem xO(w:A6):(Instr.typeAssert .nilIface 20 222 true).run prog w= .ok (.tuple #[.nilIface,.bool false]) w:=by kernel_rfl
theorem F3{u w:A6}{H:Hp}{b:Nat}{o:Obj}(h:Has b o H)(g:Sat u H w):w.heap[b]?=some o:=g.get _ h.mem
theorem Vu(m:BS q)(g:q.kd≠7):IG q (Cg rs q.tb q.cl.toNat q.lo q.hi) []=D5 rs q:=by
 rw [MO m];unfold D5 EZ CX;split;· rfl
 · split
   · rfl
   · split
     · rfl
     · split
       · rfl
       · first
         |rfl
         |(split
           · rename_i h;exact absurd h g
           · rfl)
theorem nN(E:BL rs)(hn:rs.length<=2000)(g:∀r∈rs,r.ok)(q:QM)(G:BS q):Fp (Eb rs q.tb.toNat q.cl.toNat q.lo q.hi)/\ES (Eb rs q.tb.toNat q.cl.toNat q.lo q.hi)=Cg rs q.tb q.cl.toNat q.lo q.hi:=by
 obtain ⟨I,h2,m,_⟩:=id G;refine ⟨M9 E hn g q.tb.toNat q.cl.toNat A0 A0 q.lo q.hi m.2.1,?_⟩;have h:=SV E hn g q.tb.toNat q.cl.toNat A0 A0 q.lo q.hi m.2.1
 rwa [show((q.tb.toNat:Nat):Int)=q.tb by omega]at h
theorem o5(g:BS q):(Eb rs q.tb.toNat q.cl.toNat q.lo q.hi).tb=q.tb/\(Eb rs q.tb.toNat q.cl.toNat q.lo q.hi).cl=q.cl/\(Eb rs q.tb.toNat q.cl.toNat q.lo q.hi).lo=q.lo/\(Eb rs q.tb.toNat q.cl.toNat q.lo q.hi).hi=q.hi:=by
 obtain ⟨m,h2,_⟩:=id g;exact ⟨show((q.tb.toNat:Nat):Int)=q.tb by omega,show((q.cl.toNat:Nat):Int)=q.cl by omega,V,V⟩
theorem LU:BC prog 101 #[.bool true] [] undef:=by
 refine Se func101 ntmps101 [0] ?_;intro u R;refine A1<|Zm Y<|Zv (Cj Y)<|AD<|Ad Y (fun g=>by cases g)<|fun g=>AB<|GX V results101 (by exact ⟨V,V⟩)
theorem iX(I:A4):La prog 100 #[I] .returning .returning [] (fun H'=>H'=[]):=by
 refine Qo (env1:=[(3,.bool false),(2,.nilIface),(8,.bool false),(7,.nilIface),(4,.tuple #[.nilIface,.bool false]),(6,.tuple #[.nilIface,.bool false]),(5,.nilIface),(0,I)]) func100 V ntmps100 V results100 ?hrec_1 ?hwalk_1
 case hrec_1=>
  intro u R c cs Q m G;show Xk _ _ [0,1,2,3,4,5,6] _ _ _ _ _
  have g:({c with mode:= .returning}:Frame)=c:=by cases c;simp only at m;subst m;rfl
  rw [g]at G;refine dM V (by simp [recoverD,m]) V ?_;refine JG V (Ni Y xO) V ?_;refine JG V (AJ Y) V ?_;refine JG V (Ch Y V) V ?_;refine JG V (Ch Y V) V ?_;refine JG V (BF Y) V ?_;refine JG V (BF Y) V ?_;intro a w J;exact G a w J
 intro u R;refine Zb [0,2,3] ?_;refine A1<|Zm Y<|Zm Y<|Ah (t:=10) Y V (fun E=>by cases E)<|fun E=>A7 Y V<|A7 Y V<|A7 Y V<|Zv (AL Y Y)<|AD<|Dj Y<|AB<|GX V results100 An
theorem mr(g:Nat)(E:A4):La prog 99 #[I5 g,E] .returning .returning [[(g,.cells #[.bool true] 4 (0,0))]] (fun H'=>H'=[[(g,.cells #[.bool true] 4 (0,0))]]):=by
 refine RF func99 V ntmps99 V ?_;intro u R;refine Zb [0,1] ?_;refine A1<|Zl DH Y ?_;refine Zv (Cj Y)<|AD<|Ad Y (fun m=>by cases m)<|fun m=>AB<|GX V results99 An
structure RPZ where
 x:RP
 qr:B7
 cr:Nat
 qp:B7
 cp:Nat
 qt:B7
 ct:Nat
def El(z:RPZ):List A4:=[I4 z.x.tb,I4 z.x.cl,I4 z.x.lo,I4 z.x.hi,I4 z.x.ct,I4 z.x.fi,.slice z.qr z.x.rows.length z.cr,.slice z.qp z.x.paths.length z.cp,.slice z.qt z.x.roots.length z.ct]
def RPZ.ok(M:List AU)(z:RPZ):Prop:=Da M (.slice z.qr z.x.rows.length z.cr) z.x.rows/\G5 M (.slice z.qp z.x.paths.length z.cp) z.x.paths/\DK M (.slice z.qt z.x.roots.length z.ct) z.x.roots
variable{M:List AU}
theorem wh{x:RP}(h:Ql M v x):∃z:RPZ,z.x=x/\z.ok M/\v= .agg #[I4 z.x.tb,I4 z.x.cl,I4 z.x.lo,I4 z.x.hi,I4 z.x.ct,I4 z.x.fi,.slice z.qr z.x.rows.length z.cr,.slice z.qp z.x.paths.length z.cp,.slice z.qt z.x.roots.length z.ct]:=by
 obtain ⟨K,J,O,rfl,g,h2,m⟩:=h;obtain ⟨qr,cr,rfl,E⟩:=id g;obtain ⟨qp,cp,rfl,G⟩:=id h2;obtain ⟨qt,ct,rfl,I⟩:=id m;exact ⟨⟨x,qr,cr,qp,cp,qt,ct⟩,V,⟨g,h2,m⟩,V⟩
variable{M':List AU}
theorem RPZ.ok.mono{z:RPZ}(h:z.ok M)(g:∀c∈M,c∈M'):z.ok M':=⟨h.1.mono g,h.2.1.mono g,h.2.2.mono g⟩
theorem RPZ.ok.rp{z:RPZ}(h:z.ok M):Ql M (.agg #[I4 z.x.tb,I4 z.x.cl,I4 z.x.lo,I4 z.x.hi,I4 z.x.ct,I4 z.x.fi,.slice z.qr z.x.rows.length z.cr,.slice z.qp z.x.paths.length z.cp,.slice z.qt z.x.roots.length z.ct]) z.x:=⟨_,_,_,rfl,h⟩
def ZsU(M:List AU)(v:A4)(Z:List RPZ):Prop:=∃p cap,v= .slice p Z.length cap/\(Z.length<=maxLen/\Z.length<=cap)/\∀(i:Nat) (z:RPZ),Z[i]?=some z->z.ok M/\∃g off cur T zz,p=some ⟨g,off,none⟩/\(g,Obj.cells cur T zz)∈M/\off+i*9+9<=cur.size/\cur.extract (off+i*9) (off+i*9+9)=#[I4 z.x.tb,I4 z.x.cl,I4 z.x.lo,I4 z.x.hi,I4 z.x.ct,I4 z.x.fi,.slice z.qr z.x.rows.length z.cr,.slice z.qp z.x.paths.length z.cp,.slice z.qt z.x.roots.length z.ct]
def FE(M:List AU)(v:A4)(L:List RP):Prop:=∃Z,ZsU M v Z/\Z.map RPZ.x=L
variable{Z:List RPZ}
theorem ZsU.mono(h:ZsU M v Z)(m:∀c∈M,c∈M'):ZsU M' v Z:=by
 obtain ⟨p,cap,e,K,J⟩:=h;refine ⟨p,cap,e,K,fun i z hz=>?_⟩;obtain ⟨h2,g,off,cur,T,zz,E,G,I⟩:=J i z hz;exact ⟨h2.mono m,g,off,cur,T,zz,E,m _ G,I⟩
variable{L:List RP}
theorem FE.mono(h:FE M v L)(m:∀c∈M,c∈M'):FE M' v L:=by
 obtain ⟨Z,g,h2⟩:=h;exact ⟨Z,g.mono m,h2⟩
theorem fQ{s E:List AU}(h:BZ 9 87 v Z.length (Z.flatMap El) s)(hn:Z.length<=maxLen)(I:∀z∈Z,z.ok E):ZsU (s++E) v Z:=by
 obtain ⟨b,cap,rfl⟩:=h.form;refine ⟨b,cap,V,⟨hn,Ex h⟩,fun i z hz=>⟨(I z (Cd hz)).mono (fun c hc=>DA _ hc),?_⟩⟩;obtain ⟨g,G,cur,zz,hv,rfl,J,m⟩:=Ir h i (zt.1 hz).1;injection hv with hv1 hv2 hv3
 refine ⟨g,0,cur,87,zz,hv1,E3 _ (D0.2 V),by omega,?_⟩;rw [C6];apply MA.1;rw [m];exact Gq _ 9 (fun _=>rfl) Z i z hz
theorem YE{s g:List AU}(h:BZ 9 87 v Z.length (Z.flatMap El) s)(hn:Z.length<=maxLen)(m:∀z∈Z,z.ok g):FE (s++g) v (Z.map RPZ.x):=⟨Z,fQ h hn m,rfl⟩
theorem FE.form(h:FE M v L):∃p cap,v= .slice p L.length cap/\L.length<=maxLen/\L.length<=cap:=by
 obtain ⟨Z,⟨p,cap,e,g,_⟩,rfl⟩:=h;rw [zu];exact ⟨p,cap,e,g⟩
theorem FE.at{M:List AU}{p:B7}{n cap:Nat}{L:List RP}(h:FE M (.slice p n cap) L){i:Nat}{x:RP}(hx:L[i]?=some x):∃z:RPZ,z.x=x/\z.ok M/\∃g off cur T zz,p=some ⟨g,off,none⟩/\(g,Obj.cells cur T zz)∈M/\off+i*9+9<=cur.size/\cur.extract (off+i*9) (off+i*9+9)=#[I4 z.x.tb,I4 z.x.cl,I4 z.x.lo,I4 z.x.hi,I4 z.x.ct,I4 z.x.fi,.slice z.qr z.x.rows.length z.cr,.slice z.qp z.x.paths.length z.cp,.slice z.qt z.x.roots.length z.ct]:=by
 obtain ⟨Z,⟨G,m,e,_,E⟩,rfl⟩:=h;injection e with e1 e2 e3
 subst e1;rw [FG]at hx;cases hz:Z[i]?with
 |none=>rw [hz]at hx;cases hx
 |some z=>
  rw [hz]at hx;injection hx with hx
  exact ⟨z,hx,E i z hz⟩
theorem FE.tail{p:B7}{n cap:Nat}{x:RP}(h:FE M (.slice p n cap) (x::L)):FE M (.slice (EF p 1 cap 9) (n -1) (cap -1)) L:=by
 obtain ⟨Z,⟨W,J,e,⟨I,m⟩,G⟩,E⟩:=h;injection e with e1 e2 e3
 subst e1 e2 e3
 match Z,E,I,m,G with
 |z::Z,E,I,m,G=>
  injection E with hZ1 hZ2
  rw [D3]at I m;refine ⟨Z,⟨_,_,by rw [D3,PA],⟨by omega,by omega⟩,fun i y hy=>?_⟩,hZ2⟩;obtain ⟨h2,g,off,cur,T,zz,rfl,K,U,O⟩:=G (i+1) y (by simpa using hy);have hi:=(zt.1 hy).1
  refine ⟨h2,g,off+1*9,cur,T,zz,?_,K,by omega,by rw [show off+1*9+i*9=off+(i+1)*9 by omega];exact O⟩;unfold EF;rw [As A0,L7,Cb]
def O8(q:QM)(r:AY):Int×Int×Int×Int:=(q.ot,0,Bh r q.bq,Bh r q.bq)
def MW(q:QM):Int×Int×Int×Int:=(q.tb,q.cl,q.lo,q.hi)
def RP.scan(x:RP):Int×Int×Int×Int:=(x.tb,x.cl,x.lo,x.hi)
noncomputable def Ht(s:Int×Int×Int×Int):List RP->Option (List AY×List RP)
 |[]=>none
 |x::l=>if x.scan=s/\Fp x then some (ES x,l)else none
noncomputable def EB(q:QM):List AY->List RP->Option (List AY×List RP)
 |[],l=>some ([],l)
 |r::rs,l=>(Ht (O8 q r) l).bind fun a=>(EB q rs a.2).map fun b=>(a.1++b.1,b.2)
noncomputable def Cz(q:QM)(L:List RP):Option CP:=
 if BS q then(Ht (MW q) L).bind fun a=>if a.1.length<=100 then(if q.kd=7 then EB q a.1 a.2 else some ([],a.2)).bind fun b=>if b.2=[]then some (EZ q a.1 b.1)else none else none else none
theorem Ji{s:Int×Int×Int×Int}{a:List AY×List RP}(h:Ht s L=some a):∃x,L=x::a.2/\x.scan=s/\Fp x/\a.1=ES x:=by
 unfold Ht at h;split at h;· cases h
 · split at h
   · rename_i x l h9
     injection h with h
     subst h;exact ⟨x,V,h9.1,h9.2,V⟩
   · cases h
theorem QB{s:Int×Int×Int×Int}{x:RP}{l:List RP}(g:x.scan=s)(h2:Fp x):Ht s (x::l)=some (ES x,l):=B0 ⟨g,h2⟩
theorem Iu{r:AY}{l:List RP}{b:List AY×List RP}(h:EB q (r::rs) l=some b):∃a c,Ht (O8 q r) l=some a/\EB q rs a.2=some c/\b=(a.1++c.1,c.2):=by
 unfold EB at h;cases ha:Ht (O8 q r) l with
 |none=>rw [ha]at h;cases h
 |some a=>
  rw [ha,IF]at h;cases hc:EB q rs a.2 with
  |none=>rw [hc]at h;cases h
  |some c=>rw [hc]at h;injection h with h;exact ⟨a,c,rfl,hc,h.symm⟩
theorem Le{q:QM}:∀(rows:List AY) (i:Nat) (L:List RP) (b:List AY×List RP),i<=rows.length->EB q rows L=some b->∃o g,EB q (rows.take i) L=some (o,g)/\∃m,EB q (rows.drop i) g=some (m,b.2)/\b.1=o++m
 |rows,0,L,b,_,h=>⟨[],L,rfl,b.1,by rw [NO];exact h,rfl⟩
 |r::rows,i+1,L,b,hi,h=>by
  obtain ⟨a,c,E,h2,rfl⟩:=Iu h;obtain ⟨o,g,G,m,I,J⟩:=Le rows i a.2 c (by simpa using hi) h2;refine ⟨a.1++o,g,?_,m,by rw [List.drop_succ_cons];exact I,by rw [J,D2]⟩;rw [eE];unfold EB;rw [E,IF,G];rfl
theorem Mc{q:QM}:∀(rows:List AY) (i:Nat) (r:AY) (L l':List RP) (o:List AY) (a:List AY×List RP),rows[i]?=some r->EB q (rows.take i) L=some (o,l')->Ht (O8 q r) l'=some a->EB q (rows.take (i+1)) L=some (o++a.1,a.2)
 |r9::rows,0,r,L,l',o,a,hr,h,ha=>by
  injection hr with hr
  subst hr;injection h with h
  injection h with g h2
  subst g h2;show EB q [r9] L=_
  unfold EB;rw [ha,IF];show some (a.1++[],a.2)=some ([]++a.1,a.2)
  rw [H3,L5]
 |r9::rows,i+1,r,L,l',o,a,hr,h,ha=>by
  rw [eE]at h⊢;obtain ⟨G,E,g,h2,m⟩:=Iu h;injection m with m h4
  have:=Mc rows i r G.2 E.2 E.1 a (by simpa using hr) h2 (by rw [<-h4];exact ha);unfold EB;rw [g,IF,this,m,D2];rfl
theorem K5(h:Cz q L=some r):∃x g,L=x::g/\BS q/\x.scan=MW q/\Fp x/\(ES x).length<=100/\((q.kd≠7/\g=[]/\r=EZ q (ES x) [])\/(q.kd=7/\∃o,EB q (ES x) g=some (o,[])/\r=EZ q (ES x) o)):=by
 unfold Cz at h;split at h
 · rename_i hq
   cases ha:Ht (MW q) L with
   |none=>rw [ha]at h;cases h
   |some a=>
    obtain ⟨x,m,h2,E,G⟩:=Ji ha;rw [ha,IF]at h;split at h
    · rename_i h5
      rw [G]at h5 h;refine ⟨x,a.2,m,hq,h2,E,h5,?_⟩;split at h
      · rename_i h7
        cases hb:EB q (ES x) a.2 with
        |none=>rw [hb]at h;cases h
        |some b=>
         rw [hb,IF]at h;split at h
         · rename_i h8
           injection h with h
           exact .inr ⟨h7,b.1,by rw [<-h8],h.symm⟩
         · cases h
      · rename_i h7
        rw [IF]at h;split at h
        · rename_i h8
          injection h with h
          exact .inl ⟨h7,h8,h.symm⟩
        · cases h
    · cases h
 · cases h
def Em(rs:List AY)(q:QM):List RP:=Eb rs q.tb.toNat q.cl.toNat q.lo q.hi::(if q.kd=7 then(CX rs q).map fun r=>Eb rs q.ot.toNat 0 (Bh r q.bq) (Bh r q.bq)else [])
theorem O3{rs:List AY}(m:BL rs)(hn:rs.length<=2000)(g:∀r∈rs,r.ok){q:QM}(I:0<=q.ot/\q.ot<=3):∀l:List AY,EB q l (l.map fun r=>Eb rs q.ot.toNat 0 (Bh r q.bq) (Bh r q.bq))=some (l.flatMap fun r=>Cg rs q.ot 0 (Bh r q.bq) (Bh r q.bq),[])
 |[]=>rfl
 |r::l=>by
  have e:((q.ot.toNat:Nat):Int)=q.ot:=by omega
  have E:=M9 m hn g q.ot.toNat 0 A0 A0 (Bh r q.bq) (Bh r q.bq) (cT _);have h2:=SV m hn g q.ot.toNat 0 A0 A0 (Bh r q.bq) (Bh r q.bq) (cT _)
  have G:=O3 m hn g I l;rw [e]at h2;unfold EB;rw [HJ,QB (by show(((q.ot.toNat:Nat):Int),((0:Nat):Int),_,_)=(_,_,_,_);rw [e];rfl) E,IF];simp only [G,h2,L7,HF]
theorem ky{f:AY->Bool}{g:AY->List AY}(E:∀a b,f a=true->f b=true->(∃r,a∈g r)->(∃r,b∈g r)->a=b):∀l:List AY,(∃r∈l,y∈g r)->f y=true->(l.flatMap g).find? f=some y:=fun l ⟨r,G,hy⟩ h=>by
 cases hfi:(l.flatMap g).find? f with
 |none=>exact absurd h (by simpa using fb.1 hfi y (N6.2 ⟨r,G,hy⟩))
 |some x=>
  have m:=ft (p:=f) hfi;obtain ⟨I,_,hx⟩:=N6.1 (eo hfi);rw [E x y m h ⟨I,hx⟩ ⟨r,hy⟩]
theorem FY(G:BL rs)(hn:rs.length<=2000)(J:∀r∈rs,r.ok)(m:BS q)(hl:(CX rs q).length<=100):Cz q (Em rs q)=some (D5 rs q):=by
 have hk:=m.2.2.2;have hc:=m.2.1
 have ht:=m.1;obtain ⟨O,h2⟩:=nN G hn J q m;have K:=o5 (rs:=rs) m
 have af:(Eb rs q.tb.toNat q.cl.toNat q.lo q.hi).scan=MW q:=by unfold RP.scan MW;rw [K.1,K.2.1,K.2.2.1,K.2.2.2]
 unfold Cz Em;rw [B0 m,QB af O,IF];simp only [h2];rw [show Cg rs q.tb q.cl.toNat q.lo q.hi=CX rs q from rfl,B0 hl];by_cases E:q.kd=7
 · rw [B0 E,B0 E,O3 G hn J A0,IF,B0 rfl]
   unfold D5 EZ;simp only [As (show¬q.kd=3 by omega),As (show¬q.kd=4 by omega),As (show¬q.kd=5 by omega),As (show¬q.kd=6 by omega),B0 E];congr 2;unfold JL;have g:∀k x,x∈Cg rs q.ot 0 k k↔x∈rs/\x.t=q.ot/\x.k=k:=fun k x=>by
    rw [(Ez rs q.ot 0 k k).mem_iff,MD];unfold inR DZ;rw [I2,B0 rfl];constructor;· rintro ⟨a,b,c,d⟩;exact ⟨a,b,by omega⟩
    · rintro ⟨a,b,c⟩;exact ⟨a,b,by omega,by omega⟩
   have X:∀r∈CX rs q,JK q ((CX rs q).flatMap fun r=>Cg rs q.ot 0 (Bh r q.bq) (Bh r q.bq)) r=JK q (G9 rs q.ot) r:=fun r hr=>by
    unfold JK
    suffices e:Dz q ((CX rs q).flatMap fun r=>Cg rs q.ot 0 (Bh r q.bq) (Bh r q.bq)) (Bh r q.bq)=Dz q (G9 rs q.ot) (Bh r q.bq) by rw [e]
    cases hp:Dz q (G9 rs q.ot) (Bh r q.bq)with
    |none=>
     unfold Dz;refine fb.2 fun x hx I=>?_;obtain ⟨r',_,hx⟩:=N6.1 hx;have U:=(g _ x).1 hx
     have W:x.t=q.ot/\x.k=Bh r q.bq:=by simpa using I
     have:=(GH G (q:=q) (Bh r q.bq) x).2 ⟨U.1,W⟩;rw [hp]at this;cases this
    |some x=>
     have I:=(GH G (q:=q) (Bh r q.bq) x).1 hp;unfold Dz;refine ky (fun a b ha hb ⟨r1,O⟩ ⟨r2,h2⟩=>?_) _ ⟨r,hr,(g _ x).2 ⟨I.1,I.2⟩⟩ (CA I.2);have a1:=(g _ a).1 O
     have b1:=(g _ b).1 h2;have a2:a.t=q.ot/\a.k=Bh r q.bq:=by simpa using ha
     have b2:b.t=q.ot/\b.k=Bh r q.bq:=by simpa using hb
     have a3:=(GH G (q:=q) (Bh r q.bq) a).2 ⟨a1.1,a2⟩;have b3:=(GH G (q:=q) (Bh r q.bq) b).2 ⟨b1.1,b2⟩
     rw [a3]at b3;injection b3
   have:∀l:List AY,(∀r∈l,JK q ((CX rs q).flatMap fun r=>Cg rs q.ot 0 (Bh r q.bq) (Bh r q.bq)) r=JK q (G9 rs q.ot) r)->l.flatMap (JK q ((CX rs q).flatMap fun r=>Cg rs q.ot 0 (Bh r q.bq) (Bh r q.bq)))=l.flatMap (JK q (G9 rs q.ot)):=fun l=>by
    induction l with
    |nil=>intro _;rfl
    |cons r l ih=>intro h;rw [HF,HF,h r B3,ih fun x hx=>h x (by simp [hx])]
   exact this _ X
 · rw [As E,As E,IF,B0 rfl]
   rw [<-Vu m E,MO m];rfl
end Go.Proofs.YtlkdhannldcfbaaGreatDoor
