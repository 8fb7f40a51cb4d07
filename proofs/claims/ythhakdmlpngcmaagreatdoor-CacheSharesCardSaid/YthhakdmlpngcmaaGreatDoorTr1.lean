/- The patches of least and greatest values; the patch of a kind. -/
import Derived.Test.YthhakdmlpngcmaaGreatDoorPj4
set_option linter.unusedVariables false
set_option linter.unusedSimpArgs false
namespace Go.Proofs.YthhakdmlpngcmaaGreatDoor
open Go.Proofs.Tryz
open Go Go.RowKit Gw
set_option maxRecDepth 100000
attribute [local irreducible] Gw.At Gw.Nx Gw.Ops
def Bu(q:QM)(c:Chg)(r:CB):CB×Bool:=
 if q.kd=1\/q.kd=2 then(⟨E9 q c r.rows,r.val,r.fnd⟩,true)
 else if q.kd=3 then(⟨r.rows,if(afQ q c).isSome then r.val+1 else r.val -1,r.fnd⟩,true)
 else if q.kd=4 then(⟨r.rows,r.val+(mQ q (afQ q c) -mQ q (bfQ q c)),r.fnd⟩,true)
 else if q.kd=5 then Jz (fun a b=>decide (a<b)) (bfQ q c).isSome (afQ q c).isSome (mQ q (bfQ q c)) (mQ q (afQ q c)) r
 else if q.kd=6 then Jz (fun a b=>decide (b<a)) (bfQ q c).isSome (afQ q c).isSome (mQ q (bfQ q c)) (mQ q (afQ q c)) r
 else DK q c r
theorem eO(q:QM)(c:Chg)(r:CB):(Bu q c r).1.rows.length<=r.rows.length+2:=by
 have h:=UU q c r.rows;unfold Bu;split;· exact Q1 h (Nat.le_succ _)
 · split
   · exact fS _ _
   · split
     · exact fS _ _
     · split
       · rw [Mt];exact fS _ _
       · split
         · rw [Mt];exact fS _ _
         · exact eQ q c r
set_option maxHeartbeats 1000000 in
theorem VT(q:QM)(c:Chg)(J K:B8)(o n:Int)(r:CB)(Z:B8)(X O b B:Nat)(lt:Int->Int->Bool)(G:∀(args:AK) (w:AD),(callFunc B args).run prog w= .ok (.enter B args) w)(I:∀x y:Int,BJ prog B #[I4 x,I4 y] [] (.bool (lt x y))):BJ prog 246 #[.agg (q.GS c J K o n),.agg #[.slice Z X O,I4 r.val,.bool r.fnd],I5 b] [[(b,.cells #[.func (.func B) #[] #[]] 224 (0,0))]] (.tuple #[.agg #[.slice Z X O,I4 (Jz lt J.isSome K.isSome o n r).1.val,.bool (Jz lt J.isSome K.isSome o n r).1.fnd],.bool (Jz lt J.isSome K.isSome o n r).2]):=by
 refine Se func246 ntmps246 [0,1,2] ?_;intro u R;refine A1<|Ze (F5 Y (cs:=(q.GS c J K o n)) (GG q c J K o n))<|AG fun be=>Ze (Bx #[.slice Z X O,I4 r.val,.bool r.fnd])<|AG fun br=>Ze (Al Ge #[_,_,_])<|AG fun b3=>A5 Y<|Zq<|Zb [2,3,4,5] ?_;refine CW (e0:=[]) (H0:=[]) (fun e H=>∃(w1:Bool),(w1=(J.isSome&&(!r.fnd||!lt r.val o)))/\e=[(24,.bool w1)]/\H=[]) Wp ?hx_1 ?hy_1
 case hx_1=>
  refine Zg<|Zh 17 EV V rfl LI Y<|Zl O2 Y ?_;refine Zv (Fu W0 Y Y)<|Zm Y<|Ah (t:=11) Y V (fun h1=>?_) (fun h1=>?_);·
   refine Yf 2 E6 V rfl DM Y<|Yl Fk Y ?_;refine Yg (Bt Y)<|Zf Y Y ?_;refine Ah (t:=15) Y V (fun h2=>?_) (fun h2=>?_);·
    refine A7 Y V<|A7 Y V<|A7 Y V<|A7 Y V<|A7 Y V<|A7 Y V<|A7 Y V<|Yg (AX Y Y)<|Zv (AX Y Y)<|Z0<|Zn [24,2,3,4,5] ?_;refine Av (e':=[(24,_)]) (by exact ⟨_,by simp_all,V,V⟩)
   refine Yl isAgg224 Y ?_;refine Yf 1 E6 V rfl AE Y<|Yl AH Y ?_;refine Yf 19 EV V rfl AE Y<|Yl AH Y ?_;refine Xr [_,_] Y (G) Y V (I (r.val) (o)) ?_;refine Yg (Bt Y)<|Yg (AL Y Y)<|Zv (AX Y Y)<|Z0<|Zn [24,2,3,4,5] ?_;refine Av (e':=[(24,_)]) (by exact ⟨_,by simp_all,V,V⟩)
  refine A7 Y V<|A7 Y V<|A7 Y V<|A7 Y V<|A7 Y V<|A7 Y V<|A7 Y V<|A7 Y V<|A7 Y V<|A7 Y V<|A7 Y V<|A7 Y V<|Zv (AL Y Y)<|Z0<|Zn [24,2,3,4,5] ?_;refine Av (e':=[(24,_)]) (by exact ⟨_,by simp_all,V,V⟩)
 rintro _ _ ⟨w1,g,rfl,rfl⟩;refine AU Y (fun U=>?_) (fun U=>?_);·
  rw [U]at g;refine Zb [2,3,4,5] ?_;refine CW (e0:=[(2,_)]) (H0:=[]) (fun e H=>∃(w2:Bool),(w2=((K.isSome&&r.fnd)&&!lt r.val n))/\e=[(7,.bool w2)]/\H=[]) Wp ?hx_5 ?hy_5
  case hx_5=>
   refine Zg<|Zh 18 EV V rfl LI Y<|Zl O2 Y ?_;refine Zv (Fu W0 Y Y)<|Zm Y<|Ah (t:=28) Y V (fun h4=>?_) (fun h4=>?_);·
    refine Yf 2 E6 V rfl DM Y<|Yl Fk Y ?_;refine Zv (AX Y Y)<|Zm Y<|Ah (t:=32) Y V (fun h5=>?_) (fun h5=>?_);·
     refine Yl isAgg224 Y ?_;refine Yf 1 E6 V rfl AE Y<|Yl AH Y ?_;refine Yf 20 EV V rfl AE Y<|Yl AH Y ?_;refine Xr [_,_] Y (G) Y V (I (r.val) (n)) ?_;refine Yg (Bt Y)<|Zv (AX Y Y)<|AW Y<|Zn [7,3,4,5] ?_;refine Av (e':=[(7,_)]) (by exact ⟨_,by simp_all,V,V⟩)
    refine A7 Y V<|A7 Y V<|A7 Y V<|A7 Y V<|A7 Y V<|A7 Y V<|A7 Y V<|Zv (AL Y Y)<|AW Y<|Zn [7,3,4,5] ?_;refine Av (e':=[(7,_)]) (by exact ⟨_,by simp_all,V,V⟩)
   refine A7 Y V<|A7 Y V<|Zv (AL Y Y)<|Zm Y<|A7 Y V<|A7 Y V<|A7 Y V<|A7 Y V<|A7 Y V<|A7 Y V<|A7 Y V<|Zv (AL Y Y)<|AW Y<|Zn [7,3,4,5] ?_;refine Av (e':=[(7,_)]) (by exact ⟨_,by simp_all,V,V⟩)
  rintro _ _ ⟨w2,af,rfl,rfl⟩;refine A1<|Zh 20 EV V rfl AE Y<|Zl AH Y ?_;refine Zh 1 E6 V rfl AE Y<|Xe (Zs AE Y Y V (hi:=by(simp;done))) ?_;refine A6<|A1<|Zo Wh (AB (cs:=#[_,_,_]) Cd B9 Y B5 B0) ?_;refine Zm Y<|Xe (Xw B9 _) ?_;refine A5 Y<|AJ<|Zt<|CL V results246 Y Wh (Au Cd B9 Wn (V)) Y (by
   refine ⟨?_,V⟩;unfold Jz;rw [<-g];clear g;try(rw [<-m];clear m)
   simp_all<;>rfl)
 rw [U]at g;refine AC<|Zx<|Zq<|A1<|Zh 18 EV V rfl LI Y<|Zl O2 Y ?_;refine Zv (Fu W0 Y Y)<|A6<|AU Y (fun h6=>?_) (fun h6=>?_);·
  refine Zq<|Zb [2,3,4,5] ?_;refine CW (e0:=[(2,_)]) (H0:=[]) (fun e H=>∃(w3:Bool),(w3=(!r.fnd||lt n r.val))/\e=[(59,.bool w3)]/\H=[]) Wp ?hx_10 ?hy_10
  case hx_10=>
   refine Zg<|Zh 2 E6 V rfl DM Y<|Zl Fk Y ?_;refine Zv (Bt Y)<|Zm Y<|Ah (t:=52) Y V (fun h7=>?_) (fun h7=>?_);·
    refine A7 Y V<|A7 Y V<|A7 Y V<|A7 Y V<|A7 Y V<|A7 Y V<|Zv (AX Y Y)<|Z0<|Zn [59,3,4,5] ?_;refine Av (e':=[(59,_)]) (by exact ⟨_,by simp_all,V,V⟩)
   refine Yl isAgg224 Y ?_;refine Yf 20 EV V rfl AE Y<|Yl AH Y ?_;refine Yf 1 E6 V rfl AE Y<|Yl AH Y ?_;refine Xr [_,_] Y (G) Y V (I (n) (r.val)) ?_;refine Zv (AL Y Y)<|Z0<|Zn [59,3,4,5] ?_;refine Av (e':=[(59,_)]) (by exact ⟨_,by simp_all,V,V⟩)
  rintro _ _ ⟨w3,m,rfl,rfl⟩;refine AU Y (fun W=>?_) (fun W=>?_);·
   rw [W]at m;refine Zg<|Zh 20 EV V rfl AE Y<|Zl AH Y ?_;refine Zh 1 E6 V rfl AE Y<|Xe (Zs AE Y Y V (hi:=by(simp;done))) ?_;refine A6<|Zg<|Zh 2 E6 V rfl DM Y<|Xe (Zs DM Y Y V (hi:=by(simp;done))) ?_;refine A6<|A1<|Zo Wh (AB (cs:=#[_,_,_]) Cd B9 Y B5 B0) ?_;refine Xe (Xw B9 _) ?_;refine A5 Y<|AJ<|CL V results246 Y Wh (Au Cd B9 Wn (V)) Y (by
    refine ⟨?_,V⟩;unfold Jz;rw [<-g];clear g;try(rw [<-m];clear m)
    simp_all<;>rfl)
  rw [W]at m;refine AC<|Zx<|Zg<|Zh 2 E6 V rfl DM Y<|Xe (Zs DM Y Y V (hi:=by(simp;done))) ?_;refine A6<|A1<|Zo Wh (AB (cs:=#[_,_,_]) Cd B9 Y B5 B0) ?_;refine Xe (Xw B9 _) ?_;refine A5 Y<|AJ<|CL V results246 Y Wh (Au Cd B9 Wn (V)) Y (by
   refine ⟨?_,V⟩;unfold Jz;rw [<-g];clear g;try(rw [<-m];clear m)
   simp_all<;>rfl)
 refine AC<|Zx<|A1<|Zo Wh (AB (cs:=#[_,_,_]) Cd B9 Y B5 B0) ?_;refine Xe (Xw B9 _) ?_;refine A5 Y<|AJ<|CL V results246 Y Wh (Au Cd B9 Wn (V)) Y (by
  refine ⟨?_,V⟩;unfold Jz;rw [<-g];clear g;try(rw [<-m];clear m)
  simp_all<;>rfl)
theorem uA(x y:Int):BJ prog 204 #[I4 x,I4 y] [] (.bool (decide (x<y))):=by
 refine Se func204 ntmps204 [0,1] ?_;intro u R;refine A1<|A5 Y<|A1<|Zm Y<|Zm Y<|Zv (EH Y Y)<|A5 Y<|AJ<|AP V results204 Y (by exact ⟨V,V⟩)
theorem uC(x y:Int):BJ prog 206 #[I4 x,I4 y] [] (.bool (decide (y<x))):=by
 refine Se func206 ntmps206 [0,1] ?_;intro u R;refine A1<|A5 Y<|A1<|Zm Y<|Zm Y<|Zv (Ed Y Y)<|A5 Y<|AJ<|AP V results206 Y (by exact ⟨V,V⟩)
def GZ(k:Int):Nat:=if k=1 then 197 else if k=2 then 197 else if k=3 then 199 else if k=4 then 201 else if k=5 then 246 else if k=6 then 246 else 208
def Ih(b5 b6:Nat)(k:Int):List A4:=if k=5 then [I5 b5]else if k=6 then [I5 b6]else []
theorem Vm{lm:List (Int×A4)}{g m:Nat}(h:∀p,p∈lm↔p∈MF g m)(B:(lm.map (·.1)).Nodup){k:Int}(G:1<=k/\k<=7):Dp k lm=some (.agg #[.func (.func (HV k)) #[] #[],.func (.func (GZ k)) #[] (Ih g m k).toArray]):=by
 obtain h9|h9|h9|h9|h9|h9|h9:k=1\/k=2\/k=3\/k=4\/k=5\/k=6\/k=7:=by omega
 all_goals subst h9
 all_goals exact ZI h B (by simp [MF,HV,GZ,Ih])
theorem Kr{k:Int}(g:1<=k/\k<=7):∀(args:AK) (w:AD),(callFunc (GZ k) args).run prog w= .ok (.enter (GZ k) args) w:=by
 obtain h|h|h|h|h|h|h:k=1\/k=2\/k=3\/k=4\/k=5\/k=6\/k=7:=by omega
 all_goals (subst h;simp only [GZ];first|exact call197|exact call199|exact call201|exact call246|exact call208)
theorem I9{P:Program}{f:FuncId}{args:AK}{H H1:Hp}{Q B:A4->Hp->Prop}(h:BR P f args H Q)(F:Hp)(K:H1.flatten.Perm (H++F).flatten)(O:∀v H',Q v H'->∃g E,B v g/\(H'.flatten++F.flatten).Perm (g.flatten++E)):BR P f args H1 B:=fun u R w U=>
 Calls.mono (h u (F++R) w (U.perm (by rw [HB,<-CT,HB (L₁:=H++F)];exact K.append_right _))) fun e W J=>by
  rcases J with⟨v,H',rfl,m,h2⟩|⟨ch,H',rfl,m,h2⟩
  · obtain ⟨g,E,G,I⟩:=O v H' m
    refine .inl ⟨v,g,V,G,h2.sub ⟨E,?_⟩⟩;rw [HB,HB,HB,<-CT];refine (I.append_right _).trans ?_;rw [CT,CT];exact LR.append_left _
  · exact m.elim
def MIn(q:QM)(c:Chg):Prop:=(-1000000000<=mQ q (bfQ q c)/\mQ q (bfQ q c)<=1000000000)/\-1000000000<=mQ q (afQ q c)/\mQ q (afQ q c)<=1000000000
variable{q:QM}{b:Bool}{x:AR}
theorem zF(h:b=true->x.ok):-1000000000<=mQ q (Hy q b x)/\mQ q (Hy q b x)<=1000000000:=by
 unfold Hy;split
 · rename_i h9
   rw [G0]at h9;exact WZ (h h9.1) q.bq
 · exact ⟨by show(-1000000000:Int)<=0;decide,by show(0:Int)<=1000000000;decide⟩
variable{c:Chg}
theorem tV(q:QM)(h:c.ok):MIn q c:=by
 obtain ⟨_,h2,_⟩:=h;refine ⟨zF fun g=>?_,zF fun g=>?_⟩
 · rw [PP g]at h2
   exact I0.1 fun m=>h2 (.inl ⟨g,m⟩)
 · rw [LU g]at h2
   exact I0.1 fun m=>h2 (.inr ⟨g,m⟩)
theorem L9(q:QM)(c:Chg)(hq:BK q)(hm:MIn q c){K O:B8}{s1 s2:List A9}(ax:Ij K (bfQ q c) s1)(U:Ij O (afQ q c) s2)(g m:Nat)(r:CB)(Z:B8)(W:Nat)(G:List A9)(X:Bd 5 80 (.slice Z r.rows.length W) r.rows.length (Af r.rows) G)(hn:r.rows.length<=100000000)(hv:-4000000000000000000<=r.val/\r.val<=4000000000000000000):
 BR prog (GZ q.kd) (.agg (q.GS c K O (mQ q (bfQ q c)) (mQ q (afQ q c))):: .agg #[.slice Z r.rows.length W,I4 r.val,.bool r.fnd]::Ih g m q.kd).toArray [G,s2,[(g,.cells #[.func (.func 204) #[] #[]] 224 (0,0))],[(m,.cells #[.func (.func 206) #[] #[]] 224 (0,0))]] (fun w H'=>∃B J,w= .tuple #[.agg #[B,I4 (Bu q c r).1.val,.bool (Bu q c r).1.fnd],.bool (Bu q c r).2]/\Bd 5 80 B (Bu q c r).1.rows.length (Af (Bu q c r).1.rows) J/\H'=[J]):=by
 have e1:=ax.some_;have e2:=U.some_
 have af:=hq.2.1;have hk:q.kd=1\/q.kd=2\/q.kd=3\/q.kd=4\/q.kd=5\/q.kd=6\/q.kd=7:=by have:=hq.2.2.2;omega
 have I:(q.kd=1\/q.kd=2)->Bu q c r=(⟨E9 q c r.rows,r.val,r.fnd⟩,true):=fun h=>by unfold Bu;rw [Ax h]
 have P1:=dY q c K O (mQ q (bfQ q c)) (mQ q (afQ q c)) af X hn U;have P7:=dx q af c K O e1 U X hn
 have P3:=Yn q c K O (mQ q (bfQ q c)) (mQ q (afQ q c)) Z r.rows.length W hv;have P4:=lJ q c K O (mQ q (bfQ q c)) (mQ q (afQ q c)) Z r.rows.length W hv hm
 have P5:=VT q c K O (mQ q (bfQ q c)) (mQ q (afQ q c)) r Z r.rows.length W g 204 (fun a b=>decide (a<b)) call204 uA;have P6:=VT q c K O (mQ q (bfQ q c)) (mQ q (afQ q c)) r Z r.rows.length W m 206 (fun a b=>decide (b<a)) call206 uC
 rw [e2]at P3;rw [e1,e2]at P5 P6;rcases hk with h|h|h|h|h|h|h
 · rw [show GZ q.kd=197 by rw [h];rfl,show Ih g m q.kd=[] by rw [h];rfl,I (.inl h)]
   refine I9 P1 [[(g,.cells #[.func (.func 204) #[] #[]] 224 (0,0))],[(m,.cells #[.func (.func 206) #[] #[]] 224 (0,0))]] B4 ?_;rintro w H' ⟨B,J,rfl,h3,rfl⟩;exact ⟨[J],_,⟨B,J,V,h3,V⟩,by simp;exact .refl _⟩
 · rw [show GZ q.kd=197 by rw [h];rfl,show Ih g m q.kd=[] by rw [h];rfl,I (.inr h)]
   refine I9 P1 [[(g,.cells #[.func (.func 204) #[] #[]] 224 (0,0))],[(m,.cells #[.func (.func 206) #[] #[]] 224 (0,0))]] B4 ?_;rintro w H' ⟨B,J,rfl,h3,rfl⟩;exact ⟨[J],_,⟨B,J,V,h3,V⟩,by simp;exact .refl _⟩
 · rw [show GZ q.kd=199 by rw [h];rfl,show Ih g m q.kd=[] by rw [h];rfl,show Bu q c r=(⟨r.rows,if(afQ q c).isSome then r.val+1 else r.val -1,r.fnd⟩,true) by unfold Bu;rw [As A0,Ax h]]
   refine I9 P3 [G,s2,[(g,.cells #[.func (.func 204) #[] #[]] 224 (0,0))],[(m,.cells #[.func (.func 206) #[] #[]] 224 (0,0))]] B4 ?_;rintro w H' ⟨rfl,rfl⟩;exact ⟨[G],_,⟨_,G,V,X,V⟩,by simp;exact .refl _⟩
 · rw [show GZ q.kd=201 by rw [h];rfl,show Ih g m q.kd=[] by rw [h];rfl,show Bu q c r=(⟨r.rows,r.val+(mQ q (afQ q c) -mQ q (bfQ q c)),r.fnd⟩,true) by unfold Bu;rw [As A0,As A0,Ax h]]
   refine I9 P4 [G,s2,[(g,.cells #[.func (.func 204) #[] #[]] 224 (0,0))],[(m,.cells #[.func (.func 206) #[] #[]] 224 (0,0))]] B4 ?_;rintro w H' ⟨rfl,rfl⟩;exact ⟨[G],_,⟨_,G,V,X,V⟩,by simp;exact .refl _⟩
 · have e9:Bu q c r=Jz (fun a b=>decide (a<b)) (bfQ q c).isSome (afQ q c).isSome (mQ q (bfQ q c)) (mQ q (afQ q c)) r:=by unfold Bu;rw [As A0,As A0,As A0,Ax h]
   have e8:(Bu q c r).1.rows=r.rows:=by rw [e9,Mt]
   rw [show GZ q.kd=246 by rw [h];rfl,show Ih g m q.kd=[I5 g] by rw [h];rfl];rw [<-e9]at P5;refine I9 P5 [G,s2,[(m,.cells #[.func (.func 206) #[] #[]] 224 (0,0))]] (by simp;rw [<-CT,<-CT];exact N1) ?_;rintro w H' ⟨rfl,rfl⟩;exact ⟨[G],[(g,_)]++s2++_,⟨_,G,rfl,by rw [e8];exact X,rfl⟩,by simp;exact N1.symm⟩
 · have e9:Bu q c r=Jz (fun a b=>decide (b<a)) (bfQ q c).isSome (afQ q c).isSome (mQ q (bfQ q c)) (mQ q (afQ q c)) r:=by unfold Bu;rw [As A0,As A0,As A0,As A0,Ax h]
   have e8:(Bu q c r).1.rows=r.rows:=by rw [e9,Mt]
   rw [show GZ q.kd=246 by rw [h];rfl,show Ih g m q.kd=[I5 m] by rw [h];rfl];rw [<-e9]at P6;refine I9 P6 [G,s2,[(g,.cells #[.func (.func 204) #[] #[]] 224 (0,0))]] (by simp;rw [<-CT,<-CT];exact ((List.Perm.swap _ _ []).append_left _).trans N1) ?_;rintro w H' ⟨rfl,rfl⟩;exact ⟨[G],[(m,_)]++s2++_,⟨_,G,rfl,by rw [e8];exact X,rfl⟩,by simp;exact N1.symm⟩
 · rw [show GZ q.kd=208 by rw [h];rfl,show Ih g m q.kd=[] by rw [h];rfl,show Bu q c r=DK q c r by unfold Bu;rw [As A0,As A0,As A0,As A0,As A0]]
   refine I9 P7 [[(g,.cells #[.func (.func 204) #[] #[]] 224 (0,0))],[(m,.cells #[.func (.func 206) #[] #[]] 224 (0,0))]] B4 ?_;rintro w H' ⟨B,J,rfl,h3,rfl⟩;exact ⟨[J],_,⟨B,J,V,h3,V⟩,by simp;exact .refl _⟩
def Dk(q:QM)(c:Chg):Bool:=decide c.ok&&Ct q c
def DC(q:QM)(c:Chg)(r:CB):CB×Bool:=if Dk q c then(if(Bu q c r).2 then((Bu q c r).1,true)else(CB.none,false))else(r,true)
def Hm(q:QM)(r:CB):List Chg->Option CB
 |[]=>some r
 |c::cs=>if(DC q c r).2 then Hm q (DC q c r).1 cs else none
theorem SE(q:QM):∀(a:List Chg) (r:CB) (b:List Chg),Hm q r (a++b)=(Hm q r a).bind fun g=>Hm q g b
 |[],_,_=>rfl
 |c::a,r,b=>by
  show(if(DC q c r).2 then Hm q (DC q c r).1 (a++b)else none)=(if(DC q c r).2 then Hm q (DC q c r).1 a else none).bind fun g=>Hm q g b;split;· exact SE q a _ b
  · rfl
def BX(q:QM)(r:CB)(cs:List Chg):CB×Bool×Bool:=match Hm q r cs with
 |some r'=>(r',cs.any (Dk q),true)
 |none=>(CB.none,true,false)
theorem kQ(q:QM)(c:Chg)(r:CB):(DC q c r).1.rows.length<=r.rows.length+2:=by
 have h:=eO q c r;unfold DC;split
 · split
   · exact h
   · exact C7 _
 · exact fS _ _
variable{r:CB}
theorem eH(m:MIn q c){B:Int}(h:-B<=r.val/\r.val<=B)(h0:0<=B):-(B+2000000000)<=(Bu q c r).1.val/\(Bu q c r).1.val<=B+2000000000:=by
 obtain ⟨⟨G,h2⟩,I,J⟩:=m;have g:∀lt b a,-(B+2000000000)<=(Jz lt b a (mQ q (bfQ q c)) (mQ q (afQ q c)) r).1.val/\(Jz lt b a (mQ q (bfQ q c)) (mQ q (afQ q c)) r).1.val<=B+2000000000:=fun lt b a=>by
  unfold Jz;split;· constructor<;>(simp only;omega)
  · split
    · simp only
      split<;>(constructor<;>omega)
    · constructor<;>(simp only;omega)
 unfold Bu;split;· constructor<;>(simp only;omega)
 · split
   · simp only
     split<;>(constructor<;>omega)
   · split
     · constructor<;>(simp only;omega)
     · split
       · exact g _ _ _
       · split
         · exact g _ _ _
         · rw [eP];constructor<;>omega
theorem kP{B:Int}(h:-B<=r.val/\r.val<=B)(h0:0<=B):-(B+2000000000)<=(DC q c r).1.val/\(DC q c r).1.val<=B+2000000000:=by
 unfold DC;split
 · rename_i h9
   unfold Dk at h9;rw [G0]at h9;split;· exact eH (tV q (HO h9.1)) h h0
   · constructor<;>(simp only [CB.none];omega)
 · constructor<;>(simp only;omega)
variable{cs:List Chg}{k:Nat}
theorem KC{g:CB}{x:Chg}(h:Hm q r (cs.take k)=some g)(m:cs[k]?=some x):Hm q r (cs.take (k+1))=if(DC q x g).2 then some (DC q x g).1 else none:=by
 rw [Bn m,SE,h];show Hm q g [x]=_
 unfold Hm Hm;rfl
theorem Pj(h:Hm q r (cs.take k)=none):Hm q r cs=none:=by
 rw [<-J0 k cs,SE,h];rfl
theorem WI{x:Chg}(f:Chg->Bool)(g:cs[k]?=some x):(cs.take (k+1)).any f=((cs.take k).any f||f x):=by
 rw [Bn g,List.any_append,mw,n9,fc]
theorem Ww{q:QM}:∀(cs:List Chg) (r r':CB) (B:Int) (n:Nat),Hm q r cs=some r'->(-B<=r.val/\r.val<=B)->0<=B->r.rows.length<=n->(-(B+2000000000*(cs.length:Int))<=r'.val/\r'.val<=B+2000000000*(cs.length:Int))/\r'.rows.length<=n+2*cs.length
 |[],r,r',B,n,h,h1,h2,h3=>by
  unfold Hm at h;injection h with h
  subst h;simp only [KK];exact ⟨⟨by omega,by omega⟩,h3⟩
 |c::cs,r,r',B,n,h,h1,h2,h3=>by
  unfold Hm at h;split at h
  · have g:=kP (q:=q) (c:=c) h1 h2
    have G:=kQ q c r;have m:=Ww cs _ r' (B+2000000000) (n+2) h g A0 A0
    rw [E3];obtain ⟨⟨I,J⟩,K⟩:=m;refine ⟨⟨?_,?_⟩,by omega⟩<;>(push_cast;omega)
  · cases h
variable{rv:A4}{A:List A9}
set_option maxHeartbeats 1000000 in
theorem Sl(q:QM)(g:BK q)(c:Chg)(hr:EB A rv r.rows)(hn:r.rows.length<=100000000)(hv:-4000000000000000000<=r.val/\r.val<=4000000000000000000):BR prog 97 #[.agg q.A72,.agg #[rv,I4 r.val,.bool r.fnd],.agg c.A70] [A] (fun w H'=>∃bn s',w= .tuple #[.agg #[bn,I4 (DC q c r).1.val,.bool (DC q c r).1.fnd],.bool (DC q c r).2]/\Bd 5 80 bn (DC q c r).1.rows.length (Af (DC q c r).1.rows) s'/\H'=[s',A]):=by
 have d9:=mL;obtain ⟨pv,cv,rfl,_⟩:=id hr;refine Se func97 ntmps97 [0,1,2] ?_;intro u R;refine A1<|Ze (Bx q.A72)<|AG fun bq=>Ze (Bx #[.slice pv r.rows.length cv,I4 r.val,.bool r.fnd])<|AG fun br=>Ze (Bx c.A70)<|AG fun bc=>Ze (Al Ge #[_,_,_])<|AG fun bo=>A5 Y<|A1<|Zh 0 E6 V rfl DA Y<|Zl GP Y<|Zc [_] Y call76 Y V (Gh hr A0) ?_;rintro _ _ ⟨_,⟨s1,h1,rfl⟩,rfl⟩;obtain ⟨g1,c1,rfl⟩:=h1.form;refine Zh 0 E6 V rfl DA Y<|Xe (Zs DA Y Y V (hi:=by(simp;done)))<|A6<|Zq<|A1<|Zo Wh (AB (cs:=#[_,_,_,_,_,_,_]) F1 CM Y B5 B0)<|Zo Wh (AB (cs:=#[_,_,_,_,_,_,_,_,_,_]) GF CC Y B5 B0)<|Xr [_,_] Y call96 Y V (Kj q c) ?_;rw [show(decide (BK q)&&(decide c.ok&&Ct q c))=Dk q c by rw [DG g];rfl];refine Zv (Bt Y)<|Z0<|Zn [3,4,5,6,17] ?_;refine Zx<|AU Y (fun ht=>?_) (fun ht=>?_);·
  have G:Dk q c=false:=by simpa using ht
  refine A1<|Zo Wh (AB (cs:=#[_,_,_]) Cd B9 Y B5 B0)<|Xe (Xw B9 _)<|A5 Y<|AJ<|Zt<|CL V results97 Y Wh (Au Cd B9 Wn (V)) Y (by
   have Z:DC q c r=(r,true):=by unfold DC;rw [G];rfl
   exact ⟨.slice g1 r.rows.length c1,s1,by rw [Z];rfl,by rw [Z];exact h1,rfl⟩)
 have G:Dk q c=true:=by simpa using ht
 have X:c.ok:=by unfold Dk at G;rw [G0]at G;exact HO G.1
 refine AC<|Zx<|Zb [3,4,5,6] ?_;refine CW (e0:=[(3,_),(4,_),(5,_)]) (H0:=[s1]) (fun e H=>∃(U:Nat) (B:B8) (m:Nat) (O:List A9),(Bd 5 80 (.slice B (Bu q c r).1.rows.length m) (Bu q c r).1.rows.length (Af (Bu q c r).1.rows) O)/\e=[(8,I5 U),(9,.bool (Bu q c r).2)]/\H=[[(U,.cells #[.slice B (Bu q c r).1.rows.length m,I4 (Bu q c r).1.val,.bool (Bu q c r).1.fnd] 61 (0,0))],O]) Wp ?hx_2 ?hy_2
 case hx_2=>
  refine BA (n:=16) (0::0::2::7::15::0::0::97::0::511::1023::2047::2047::0::12287::32767::[]) 25217 AF AF V<|A3 1 V (AA (off:=0) CN V rfl AE Y)<|BE 2 V AH Y<|FG 5 V Wh (AB (cs:=#[_,_,_,_,_,_,_]) F1 CM Y B5 B0)<|FG 6 V Wh (AB (cs:=#[_,_,_,_,_,_,_,_,_,_]) GF CC Y B5 B0)<|FG 8 V Wh (AB (cs:=#[_,_,_]) Cd B9 Y B5 B0)<|Zz (l:=[0,13])<|B7 [true,true,true,true] [(8,(_,_)),(6,(_,_)),(5,(_,_)),(2,(_,_))] V rfl (Zw [] Y call151 Y V (Nl)) ?_ Bv ?_;·
   rintro _ _ ⟨_,⟨mb,es,ck,lm,b5,b6,rfl,hm,hp,rfl⟩,rfl⟩;refine ⟨Zk (Zk (Zk (Zk (AZ)))),?_⟩;have W:=Vm hp hm.keys g.kind
   refine FG 3 rfl Wh (De I1 Ys Z3 hm (fun _ _=>trivial) (trivial) ((by rw [W];exact rfl:_=Value.agg #[.func (.func (HV q.kd)) #[] #[],.func (.func (GZ q.kd)) #[] (Ih b5 b6 q.kd).toArray])) Y Y)<|A3 4 rfl (XB Xs rfl isAgg258 Y rfl)<|Zz (l:=[7,13])<|B7 [true,true,false,false,true] [(3,(_,_)),(8,(_,_)),(2,(_,_))] rfl rfl (Zw [_,_] Y call152 Y rfl (Jl q g.2.1 (by have:=g.2.2.2;omega) c)) ?_ Bv ?_;·
    rintro _ _ ⟨_,⟨p1,p2,cu,cO,rfl,J,K,rfl⟩,rfl⟩;refine BW<|Zz (l:=[9,13])<|B7 [false,false,false] [] V rfl (Zw [_,_] Y (Kr g.kind) Y V (L9 q c g (tV q X) J K b5 b6 r g1 c1 s1 h1 hn hv)) ?_ Bv ?_;·
     rintro _ _ ⟨_,⟨ax,O,rfl,I,rfl⟩,rfl⟩;refine ⟨AZ,?_⟩;obtain ⟨B,m,rfl⟩:=I.form;refine A3 10 V (AO Y)<|A3 11 V (CE Y V)<|A3 12 V (CE Y V)<|Zz (l:=[13])<|B7 [] [] V rfl (Al Ge #[_,_,_]) ?_ (fun _ _ h=>h.elim) Aj;rintro _ _ ⟨U,rfl,rfl⟩;refine BW<|Yw 14 32767 V (Xw B9 #[.slice B (Bu q c r).1.rows.length m,I4 (Bu q c r).1.val,.bool (Bu q c r).1.fnd])<|Cp<|A3 15 V (Aq Y)<|Ag<|Zn [8,9,6] ?_;refine Av (e':=[(8,_),(9,_)]) (by exact ⟨U,B,m,O,I,V,V⟩)
    refine B7 [true,true,true] [(3,(_,_)),(8,(_,_)),(2,(_,_))] V rfl (Al Ge #[_,_,_]) ?_ (fun _ _ h=>h.elim) Aj;rintro _ _ ⟨U,rfl,rfl⟩;refine BW<|Zz (l:=[9])<|B7 [false,false,false] [] V rfl (Zw [_,_] Y (Kr g.kind) Y V (L9 q c g (tV q X) J K b5 b6 r g1 c1 s1 h1 hn hv)) ?_ Bv Aj;rintro _ _ ⟨_,⟨ax,O,rfl,I,rfl⟩,rfl⟩;refine ⟨AZ,?_⟩;obtain ⟨B,m,rfl⟩:=I.form;refine A3 10 V (AO Y)<|A3 11 V (CE Y V)<|A3 12 V (CE Y V)<|Zz (l:=[14])<|B7 [] [] V rfl (Xw B9 #[.slice B (Bu q c r).1.rows.length m,I4 (Bu q c r).1.val,.bool (Bu q c r).1.fnd]) ?_ (fun _ _ h=>h.elim) Aj;rintro _ _ ⟨rfl,rfl⟩;refine BW<|A3 15 V (Aq Y)<|Ag<|Zn [8,9,6] ?_;refine Av (e':=[(8,_),(9,_)]) (by exact ⟨U,B,m,O,I,V,V⟩)
   refine B7 [true,true,true,true,true] [(3,(_,_)),(8,(_,_)),(6,(_,_)),(5,(_,_)),(2,(_,_))] V rfl (Al Ge #[_,_,_]) ?_ (fun _ _ h=>h.elim) Aj;rintro _ _ ⟨U,rfl,rfl⟩;refine BW<|Zz (l:=[7])<|B7 [true,true,false,false,true] [(3,(_,_)),(8,(_,_)),(2,(_,_))] V rfl (Zw [_,_] Y call152 Y V (Jl q g.2.1 (by have:=g.2.2.2;omega) c)) ?_ Bv Aj;rintro _ _ ⟨_,⟨p1,p2,cu,cO,rfl,J,K,rfl⟩,rfl⟩;refine BW<|Zz (l:=[9])<|B7 [false,false,false] [] V rfl (Zw [_,_] Y (Kr g.kind) Y V (L9 q c g (tV q X) J K b5 b6 r g1 c1 s1 h1 hn hv)) ?_ Bv Aj;rintro _ _ ⟨_,⟨ax,O,rfl,I,rfl⟩,rfl⟩;refine ⟨AZ,?_⟩;obtain ⟨B,m,rfl⟩:=I.form;refine A3 10 V (AO Y)<|A3 11 V (CE Y V)<|A3 12 V (CE Y V)<|Zz (l:=[14])<|B7 [] [] V rfl (Xw B9 #[.slice B (Bu q c r).1.rows.length m,I4 (Bu q c r).1.val,.bool (Bu q c r).1.fnd]) ?_ (fun _ _ h=>h.elim) Aj;rintro _ _ ⟨rfl,rfl⟩;refine BW<|A3 15 V (Aq Y)<|Ag<|Zn [8,9,6] ?_;refine Av (e':=[(8,_),(9,_)]) (by exact ⟨U,B,m,O,I,V,V⟩)
  refine B7 [true,true,true,true] [(8,(_,_)),(6,(_,_)),(5,(_,_)),(2,(_,_))] V rfl (Al Ge #[_,_,_]) ?_ (fun _ _ h=>h.elim) Aj;rintro _ _ ⟨U,rfl,rfl⟩;refine BW<|Zz (l:=[0])<|B7 [true,true,true,true] [(8,(_,_)),(6,(_,_)),(5,(_,_)),(2,(_,_))] V rfl (Zw [] Y call151 Y V (Nl)) ?_ Bv Aj;rintro _ _ ⟨_,⟨mb,es,ck,lm,b5,b6,rfl,hm,hp,rfl⟩,rfl⟩;refine ⟨Zk (Zk (Zk (Zk (AZ)))),?_⟩;have W:=Vm hp hm.keys g.kind
  refine FG 3 rfl Wh (De I1 Ys Z3 hm (fun _ _=>trivial) (trivial) ((by rw [W];exact rfl:_=Value.agg #[.func (.func (HV q.kd)) #[] #[],.func (.func (GZ q.kd)) #[] (Ih b5 b6 q.kd).toArray])) Y Y)<|A3 4 rfl (XB Xs rfl isAgg258 Y rfl)<|Zz (l:=[7])<|B7 [true,true,false,false,true] [(3,(_,_)),(8,(_,_)),(2,(_,_))] rfl rfl (Zw [_,_] Y call152 Y rfl (Jl q g.2.1 (by have:=g.2.2.2;omega) c)) ?_ Bv Aj;rintro _ _ ⟨_,⟨p1,p2,cu,cO,rfl,J,K,rfl⟩,rfl⟩;refine BW<|Zz (l:=[9])<|B7 [false,false,false] [] V rfl (Zw [_,_] Y (Kr g.kind) Y V (L9 q c g (tV q X) J K b5 b6 r g1 c1 s1 h1 hn hv)) ?_ Bv Aj;rintro _ _ ⟨_,⟨ax,O,rfl,I,rfl⟩,rfl⟩;refine ⟨AZ,?_⟩;obtain ⟨B,m,rfl⟩:=I.form;refine A3 10 V (AO Y)<|A3 11 V (CE Y V)<|A3 12 V (CE Y V)<|Zz (l:=[14])<|B7 [] [] V rfl (Xw B9 #[.slice B (Bu q c r).1.rows.length m,I4 (Bu q c r).1.val,.bool (Bu q c r).1.fnd]) ?_ (fun _ _ h=>h.elim) Aj;rintro _ _ ⟨rfl,rfl⟩;refine BW<|A3 15 V (Aq Y)<|Ag<|Zn [8,9,6] ?_;refine Av (e':=[(8,_),(9,_)]) (by exact ⟨U,B,m,O,I,V,V⟩)
 rintro _ _ ⟨U,B,m,O,I,rfl,rfl⟩;refine Zq<|A1<|Zm Y<|Zv (Bt Y)<|A6<|AU Y (fun hk=>?_) (fun hk=>?_);·
  have af:(Bu q c r).2=false:=by simpa using hk
  refine Zq<|Bc<|Zg<|Zv (BM (vs:=[]) (cs:=#[_,_,_]) Y (AY (pl:=#[(0,1),(1,1),(2,1)]) Ge E6 (fun _=>by kernel_rfl) V))<|Xe (Xw B9 _)<|A5 Y<|AJ<|Zt<|CL V results97 Y Wh (Au Cd B9 Wn (V)) Y (by
   have Z:DC q c r=(CB.none,false):=by unfold DC;rw [G,Ax rfl,af];rfl
   exact ⟨.slice none 0 0,[],by rw [Z];rfl,by rw [Z];exact Bj 5 _,rfl⟩)
 have af:(Bu q c r).2=true:=by simpa using hk
 refine AC<|Zx<|A1<|Zo Wh (AB (cs:=#[_,_,_]) Cd B9 Y B5 B0)<|Xe (Xw B9 _)<|A5 Y<|AJ<|CL V results97 Y Wh (Au Cd B9 Wn (V)) Y (by
  have Z:DC q c r=((Bu q c r).1,true):=by unfold DC;rw [G,Ax rfl,af];rfl
  exact ⟨.slice B _ m,O,by rw [Z];rfl,by rw [Z];exact I,rfl⟩)
set_option maxHeartbeats 1000000 in
theorem JP(q:QM)(hq:BK q)(p:Int)(qa:B8)(cap:Nat)(cs:List Chg){MC:List A9}(hC:Cv MC (.slice qa cs.length cap) cs)(l9:cs.length<=1000)(hr:EB A rv r.rows)(hn:r.rows.length<=10000000)(hv:-2000000000000000000<=r.val/\r.val<=2000000000000000000):BR prog 48 #[.agg q.A72,.agg #[rv,I4 r.val,.bool r.fnd],.agg #[I4 p,.slice qa cs.length cap]] [A,MC] (fun w H'=>∃cO s',w= .tuple #[.agg #[cO,I4 (BX q r cs).1.val,.bool (BX q r cs).1.fnd],.bool (BX q r cs).2.1,.bool (BX q r cs).2.2]/\Bd 5 80 cO (BX q r cs).1.rows.length (Af (BX q r cs).1.rows) s'/\H'=[s',A,MC]):=by
 have o9:=mL;obtain ⟨pv,cv,rfl,_⟩:=id hr;obtain ⟨pc,kv,ic,o8,d9⟩:=id hC;injection ic with hv1 hv2 hv3
 subst hv1 hv3;refine Se func48 ntmps48 [0,1,2] ?_;intro u R;refine A1<|Ze (Bx q.A72)<|AG fun bq=>Ze (Bx #[.slice pv r.rows.length cv,I4 r.val,.bool r.fnd])<|AG fun br=>Ze (Bx #[I4 p,.slice qa cs.length cap])<|AG fun bc=>Ze (Al Ge #[_,_,_])<|AG fun bo=>Za Y<|A5 Y<|A1<|A5 Y<|A1<|Zh 0 E6 V rfl DA Y<|Zl GP Y<|Zc [_] Y call76 Y V (Gh hr A0) ?_;rintro _ _ ⟨_,⟨s1,h1,rfl⟩,rfl⟩;obtain ⟨g1,c1,rfl⟩:=h1.form;refine Zh 0 E6 V rfl DA Y<|Xe (Zs DA Y Y V (hi:=by(simp;done)))<|A6<|Zq<|A1<|Zh 1 HE V rfl MA Y<|Zl OK Y<|Zv (Ac Gk Y)<|Zm Y<|Z0<|Zn [3,4,6,9,18,19,20] ?_;refine Zx<|AQ<|Zb [9,20,3,4,6,18,19] ?_;refine BI (e0:=[(9,_),(20,_)]) (fun m e H=>∃(k:Nat) (g:CB) (gk:B8) (ck:Nat) (sk:List A9),m=cs.length -k/\(k<=cs.length/\Hm q r (cs.take k)=some g/\Bd 5 80 (.slice gk g.rows.length ck) g.rows.length (Af g.rows) sk)/\e=[(9,.bool ((cs.take k).any (Dk q))),(20,I4 (k:Int))]/\H=[[(br,.cells #[.slice gk g.rows.length ck,I4 g.val,.bool g.fnd] 61 (0,0))],sk]) (by exact ⟨0,r,g1,c1,s1,rfl,⟨C7 _,by rw [IF];rfl,h1⟩,rfl,rfl⟩) Wp ?_;rintro _ _ _ ⟨k,g,gk,ck,sk,rfl,⟨hk,I,cu⟩,rfl,rfl⟩;obtain ⟨gq,gm⟩:=Ww (cs.take k) r g 2000000000000000000 10000000 I hv A0 hn;have dn:(cs.take k).length=k:=by rw [CD];omega
 rw [dn]at gq gm;have af:=DY cu A0
 refine A1<|Zv (Ay Y Y)<|A6<|Zq<|Aw Y (fun bn=>?_) (fun bn=>?_);·
  obtain ⟨y,O⟩:∃y,cs[k]?=some y:=⟨_,BT bn⟩;obtain ⟨g2,l8,W,T2,j5,rfl,gy,l5,ax⟩:=d9 k y O;refine AC<|Zx<|Zq<|AQ<|A1<|BU (Ae Gk CC Y Y A0)<|CS (cs:=[(g2,.cells W T2 j5)]) (by simp [gy]) (AB (cs:=y.A70) GF CC Y A0 ax) V rfl<|Ze (Al LS #[_,_,_,_,_,_,_,_,_,_])<|AG fun bx=>Xe (Xw CC y.A70)<|A6<|A1<|Zm Y<|Zm Y<|Ah (t:=25) Y V (fun K=>?_) (fun K=>?_);·
   have e9:(cs.take (k+1)).any (Dk q)=true:=by rw [WI _ O,K];rfl
   refine A7 Y V<|A7 Y V<|A7 Y V<|Zv (AX Y Y)<|A5 Y<|A1<|AW Y<|Zn [3,4,6,9,11,18,19,20] ?_;refine Zx<|A1<|Zo Wh (AB (cs:=#[_,_,_,_,_,_,_]) F1 CM Y B5 B0)<|Zo Wh (AB (cs:=#[_,_,_]) Cd B9 Y B5 B0)<|Zo Wh (AB (cs:=#[_,_,_,_,_,_,_,_,_,_]) GF CC Y B5 B0)<|Zc [_,_,_] Y call97 Y V (Sl q hq y af A0 A0) ?_;rintro _ _ ⟨_,⟨j3,s3,rfl,Z,rfl⟩,rfl⟩;obtain ⟨X,U,rfl⟩:=Z.form;refine Zm Y<|Zd Y rfl<|Zd Y rfl<|Xe (BL B9 Y Y Hb Wu (by exact (rfl:_=(#[.slice X (DC q y g).1.rows.length U,I4 (DC q y g).1.val,.bool (DC q y g).1.fnd]:AK))) FA B5 (by exact BC _))<|A5 Y<|A1<|Zm Y<|Zv (Bt Y)<|A6<|AU Y (fun G=>?_) (fun G=>?_);·
    have B:(DC q y g).2=false:=by simpa using G
    have J:BX q r cs=(CB.none,true,false):=by unfold BX;rw [Pj (k:=k+1) (by rw [KC I O,B];rfl)]
    refine Zq<|Bc<|Zg<|Zv (BM (vs:=[]) (cs:=#[_,_,_]) Y (AY (pl:=#[(0,1),(1,1),(2,1)]) Ge E6 (fun _=>by kernel_rfl) V))<|Xe (Xw B9 _)<|Za Y<|AW Y<|Zn [6,7,8] ?_;refine Zx<|AJ<|Ab<|Zt<|Zt<|Ab<|Zt<|Hz rfl results48 Y Wh (Au Cd B9 Wn (rfl)) Y Y (by exact ⟨.slice none 0 0,[],by rw [J];rfl,by rw [J];exact Bj 5 _,rfl⟩)
   have B:(DC q y g).2=true:=by simpa using G
   refine AC<|A8<|Zx<|Zg<|Ya (n:=1) Y Y<|Zm Y<|Z0<|Zn [9,20,3,4,6,18,19] ?_;refine Aa (e':=[(9,_),(20,_)]) (by exact ⟨k+1,(DC q y g).1,X,U,s3,rfl,⟨by omega,by rw [KC I O,Ax B],Z⟩,by rw [e9],rfl⟩)
  have e9:(cs.take (k+1)).any (Dk q)=Dk q y:=by rw [WI _ O,K];rfl
  refine Dw Y Wh (AB (cs:=#[_,_,_,_,_,_,_]) F1 CM Y B5 B0) V rfl<|Dw Y Wh (AB (cs:=#[_,_,_,_,_,_,_,_,_,_]) GF CC Y B5 B0) V rfl<|Xr [_,_] Y call96 Y V (Kj q y) ?_;rw [show(decide (BK q)&&(decide y.ok&&Ct q y))=Dk q y by rw [DG hq];rfl];refine Zv (AL Y Y)<|A5 Y<|A1<|AW Y<|Zn [3,4,6,9,11,18,19,20] ?_;refine Zx<|A1<|Zo Wh (AB (cs:=#[_,_,_,_,_,_,_]) F1 CM Y B5 B0)<|Zo Wh (AB (cs:=#[_,_,_]) Cd B9 Y B5 B0)<|Zo Wh (AB (cs:=#[_,_,_,_,_,_,_,_,_,_]) GF CC Y B5 B0)<|Zc [_,_,_] Y call97 Y V (Sl q hq y af A0 A0) ?_;rintro _ _ ⟨_,⟨j3,s3,rfl,Z,rfl⟩,rfl⟩;obtain ⟨X,U,rfl⟩:=Z.form;refine Zm Y<|Zd Y rfl<|Zd Y rfl<|Xe (BL B9 Y Y Hb Wu (by exact (rfl:_=(#[.slice X (DC q y g).1.rows.length U,I4 (DC q y g).1.val,.bool (DC q y g).1.fnd]:AK))) FA B5 (by exact BC _))<|A5 Y<|A1<|Zm Y<|Zv (Bt Y)<|A6<|AU Y (fun G=>?_) (fun G=>?_);·
   have B:(DC q y g).2=false:=by simpa using G
   have J:BX q r cs=(CB.none,true,false):=by unfold BX;rw [Pj (k:=k+1) (by rw [KC I O,B];rfl)]
   refine Zq<|Bc<|Zg<|Zv (BM (vs:=[]) (cs:=#[_,_,_]) Y (AY (pl:=#[(0,1),(1,1),(2,1)]) Ge E6 (fun _=>by kernel_rfl) V))<|Xe (Xw B9 _)<|Za Y<|AW Y<|Zn [6,7,8] ?_;refine Zx<|AJ<|Ab<|Zt<|Zt<|Ab<|Zt<|Hz rfl results48 Y Wh (Au Cd B9 Wn (rfl)) Y Y (by exact ⟨.slice none 0 0,[],by rw [J];rfl,by rw [J];exact Bj 5 _,rfl⟩)
  have B:(DC q y g).2=true:=by simpa using G
  refine AC<|A8<|Zx<|Zg<|Ya (n:=1) Y Y<|Zm Y<|Z0<|Zn [9,20,3,4,6,18,19] ?_;refine Aa (e':=[(9,_),(20,_)]) (by exact ⟨k+1,(DC q y g).1,X,U,s3,rfl,⟨by omega,by rw [KC I O,Ax B],Z⟩,by rw [e9],rfl⟩)
 have ek:k=cs.length:=by omega
 subst ek;rw [G3]at I⊢;have J:BX q r cs=(g,cs.any (Dk q),true):=by unfold BX;rw [I]
 refine BD<|Zt<|Zt<|AV<|Zx<|A1<|Zo Wh (AB (cs:=#[_,_,_]) Cd B9 Y B5 B0)<|Zm Y<|Xe (Xw B9 _)<|Za Y<|A5 Y<|AJ<|Hz rfl results48 Y Wh (Au Cd B9 Wn (rfl)) Y Y (by exact ⟨.slice gk _ ck,sk,by rw [J];rfl,by rw [J];exact cu,rfl⟩)
variable{rs:List AR}
theorem OM(g:BP rs):rs.Nodup:=g.imp (by
 intro a b h e;subst e;unfold AR.lt2 at h;omega)
theorem OU(g:BK q)(rs:List AR)(x:AR):x∈CR rs q↔x∈rs/\inQ q x=true:=by rw [(Hl g rs).mem_iff,Fc]
theorem Rv(g:BK q)(m:BP rs):(CR rs q).Nodup:=(Hl g rs).nodup_iff.2 ((OM m).filter _)
theorem Ru(I:BK q){o:List AR}(g:BP rs)(G:o.Nodup)(B:∀x,x∈o↔x∈rs/\inQ q x=true)(h2:o.Pairwise (leV q.cl.toNat)):o=CR rs q:=by
 have h:=Hl I rs;refine Rs g (f:=inQ q) (t:=q.tb) (fun r m=>(HO m).1) ?_ h h2 (Es g _ _ _ _);exact (OS G ((OM g).filter _)).2 fun x=>by rw [B,Fc]
variable{y:AR}
theorem Ou(h:Hy q b x=some y):y=x/\b=true/\inQ q y=true:=by
 unfold Hy at h;split at h
 · rename_i h9
   rw [G0]at h9;injection h with h
   subst h;exact ⟨V,h9⟩
 · cases h
theorem sP(h:Hy q b x=none)(g:b=true):inQ q x=false:=by
 unfold Hy at h;rw [g,V1]at h;split at h;· cases h
 · simp_all
theorem RQ(g:BK q)(y x:AR):KZ q y x=true↔Dh y q.cl.toNat<Dh x q.cl.toNat\/(Dh x q.cl.toNat=Dh y q.cl.toNat/\y.k<x.k):=by
 have hc:=g.2.1;have e:∀r,Bl r q.cl=Dh r q.cl.toNat:=fun r=>by
  have:=Lf r q.cl.toNat A0;rwa [show((q.cl.toNat:Nat):Int)=q.cl by omega]at this
 unfold KZ;rw [e,e,S3,G0,GO,GO,GO]
theorem tI(B:BK q)(h:KZ q y x=false):leV q.cl.toNat x y:=by
 have g:=RQ B y x;rw [h]at g;unfold leV;have:¬(Dh y q.cl.toNat<Dh x q.cl.toNat\/(Dh x q.cl.toNat=Dh y q.cl.toNat/\y.k<x.k)):=fun m=>by cases g.2 m
 omega
theorem tM(g:BK q)(h:KZ q y x=true):leV q.cl.toNat y x:=by
 have:=(RQ g y x).1 h;unfold leV;omega
theorem Vq(I:BK q){L:List AR}(U:L.Pairwise (leV q.cl.toNat))(y:AR):∃A B,L=A++B/\R6 (KZ q y) L y=A++[y]++B/\(∀x∈A,KZ q y x=false)/\(∀x∈B,KZ q y x=true):=by
 cases h:L.findIdx? (KZ q y)with
 |none=>
  refine ⟨L,[],by simp,?_,da.1 h,by simp⟩;unfold R6;rw [h];simp
 |some i=>
  obtain ⟨J,h2,K⟩:=an.1 h;refine ⟨L.take i,L.drop i,(J0 i L).symm,?_,fun x g=>?_,fun x g=>?_⟩
  · unfold R6
    rw [h];rfl
  · obtain ⟨j,m⟩:=HH g
    rw [HI]at m;split at m
    · rename_i hji
      obtain ⟨W,rfl⟩:=C4.1 m;simpa using K j hji
    · cases m
  · have G:=U.sublist (List.drop_sublist i L)
    rw [RR J]at g G;rcases DB.1 g with rfl|g
    · exact h2
    · have O:=(PC.1 G).1 x g
      have X:=(RQ I y _).1 h2;rw [RQ I];unfold leV at O;omega
theorem aA(g:AR->Bool)(L:List AR)(y:AR):(R6 g L y).Perm (y::L):=by
 unfold R6;simp only [CT,MY];refine N1.trans ?_;rw [J0]
theorem fq(G:BK q){L:List AR}(g:L.Pairwise (leV q.cl.toNat))(y:AR):(R6 (KZ q y) L y).Pairwise (leV q.cl.toNat):=by
 obtain ⟨A,B,e,e2,O,U⟩:=Vq G g y;rw [e2];rw [e]at g;obtain ⟨J,h2,K⟩:=P0.1 g;rw [CT];refine P0.2 ⟨J,PC.2 ⟨fun x W=>tM G (U x W),h2⟩,fun a I b m=>?_⟩;rcases DB.1 m with rfl|m
 · exact tI G (O a I)
 · exact K a I b m
theorem sB(c:Chg)(x:AR):Jw c x=true↔x.is c.t c.k:=by
 unfold Jw AR.is;rw [G0,GO,GO]
theorem Sm(m:BK q)(g:BP rs)(B:GX rs c):E9 q c (CR rs q)=CR (EL rs c) q:=by
 have K:((CR rs q).filter fun x=>!Jw c x).Pairwise (leV q.cl.toNat):=(Es g _ _ _ _).sublist Sp;have O:((CR rs q).filter fun x=>!Jw c x).Nodup:=(Rv m g).filter _
 have G:∀x,x∈((CR rs q).filter fun x=>!Jw c x)↔(x∈rs/\¬x.is c.t c.k)/\inQ q x=true:=fun x=>by
  rw [Fc,OU m,Sx,<-oY,sB];constructor;· rintro ⟨⟨a,b⟩,d⟩;exact ⟨⟨a,d⟩,b⟩
  · rintro ⟨⟨a,d⟩,b⟩;exact ⟨⟨a,b⟩,d⟩
 unfold E9;cases ha:afQ q c with
 |none=>
  refine Ru m (JE g B) O (fun x=>?_) K;rw [G,GA g B];constructor;· rintro ⟨a,b⟩;exact ⟨.inl a,b⟩
  · rintro ⟨a|⟨a,rfl⟩,b⟩
    · exact ⟨a,b⟩
    · rw [sP ha a]at b;cases b
 |some y=>
  obtain ⟨I,U,hi⟩:=Ou ha;have J:y∉((CR rs q).filter fun x=>!Jw c x):=fun h=>((G y).1 h).1.2 (by rw [I];exact ⟨rfl,rfl⟩)
  refine Ru m (JE g B) ((aA _ _ y).nodup_iff.2 (HK.2 ⟨J,O⟩)) (fun x=>?_) (fq m K y);rw [(aA _ _ y).mem_iff,DB,G,GA g B];constructor
  · rintro (rfl|⟨a,b⟩)
    · exact ⟨.inr ⟨U,I⟩,hi⟩
    · exact ⟨.inl a,b⟩
  · rintro ⟨a|⟨a,e⟩,b⟩
    · exact .inr ⟨a,b⟩
    · exact .inl (e.trans I.symm)
theorem aY(lt:Int->Int->Bool)(G:∀a b c,lt b a=false->lt c b=false->lt c a=false)(m:∀a,lt a a=false)(g:∀a b,lt a b=true->lt b a=false)(B:∀a b,lt a b=false->lt b a=false->a=b){l:List Int}{x:Int}(I:x∈l)(h:∀y∈l,lt y x=false):EY lt l=⟨[],x,true⟩:=by
 match l,I,h with
 |z::l,I,h=>
  obtain ⟨J,K,O,U⟩:=KW lt G m g z l;rw [U,B x J (O x I) (h J K)]
theorem um(lt:Int->Int->Bool)(l:List Int)(n:Int):EY lt (l++[n])=⟨(EY lt l).rows,if !(EY lt l).fnd||lt n (EY lt l).val then n else(EY lt l).val,true⟩:=by
 unfold EY;rw [bm];rfl
theorem o5(lt:Int->Int->Bool)(G:∀a b c,lt b a=false->lt c b=false->lt c a=false)(g:∀a,lt a a=false)(m:∀a b,lt a b=true->lt b a=false)(B:∀a b,lt a b=false->lt b a=false->a=b)(X:List Int)(b a:Option Int)
 (h:(Jz lt b.isSome a.isSome (b.getD 0) (a.getD 0) (EY lt (X++b.toList))).2=true):(Jz lt b.isSome a.isSome (b.getD 0) (a.getD 0) (EY lt (X++b.toList))).1=EY lt (X++a.toList):=by
 have I:∀r:CB,r=EY lt X->(if a.isSome then((⟨r.rows,if !r.fnd||lt (a.getD 0) r.val then a.getD 0 else r.val,true⟩:CB),true)else(r,true)).1=EY lt (X++a.toList):=fun r hr=>by
  subst hr;cases a with
  |none=>simp
  |some n=>rw [oS,um];rfl
 cases b with
 |none=>
  have e:EY lt (X++(none:Option Int).toList)=EY lt X:=by simp
  rw [e]at h⊢;exact I _ V
 |some o=>
  have O:∃x∈X++[o],(∀y∈X++[o],lt y x=false)/\EY lt (X++[o])=⟨[],x,true⟩:=by
   cases hx:X++[o]with
   |nil=>simp at hx
   |cons z l=>exact KW lt G g m z l
  obtain ⟨x,Z,h2,h3⟩:=O;rw [oS]at h⊢;rw [h3]at h⊢;unfold Jz at h⊢;simp only [Option.isSome_some,fN,V1,S4,mx]at h⊢;cases hxo:lt x o with
  |false=>
   rw [hxo]at h;simp only [dr,Hv]at h⊢;have U:=h2 o B4
   have K:=B x o hxo U;subst K;cases a with
   |none=>simp at h
   |some n=>
    simp only [Option.isSome_some,fN,V1,Bool.and_true,Sx]at h;rw [oS,aY lt G g m B (x:=n) B4 fun y J=>?_];· rfl
    · rcases C2.1 J with J|J
      · exact G n x y h (h2 y (by simp [J]))
      · rw [C5.1 J];exact g n
  |true=>
   simp only [S4,N0,HT];have W:x∈X:=by
    rcases C2.1 Z with h9|h9
    · exact h9
    · rw [C5.1 h9,g]at hxo;cases hxo
   have e:(⟨[],x,true⟩:CB)=EY lt X:=(aY lt G g m B W fun y J=>h2 y (by simp [J])).symm;have:=I _ e
   simpa using this
theorem Ox(q:QM)(a b:List AR):D5 q (a++b)=D5 q a++D5 q b:=C0
theorem ZC(q:QM)(o:Option AR):D5 q o.toList=(o.map fun r=>Bl r q.bq).toList:=by cases o<;>rfl
theorem fG(q:QM)(o:Option AR):mQ q o=(o.map fun r=>Bl r q.bq).getD 0:=by cases o<;>rfl
theorem jO(q:QM)(o:Option AR):o.isSome=(o.map fun r=>Bl r q.bq).isSome:=by cases o<;>rfl
theorem wy(o:Option Int):Jt o.toList=o.getD 0:=by
 cases o with
 |none=>rfl
 |some x=>show x+0=x;omega
theorem Yr(K:BK q)(hs:BP rs)(hf:GX rs c)(h7:q.kd≠7)(J:Ct q c=true)(h:(Bu q c (Cs rs q)).2=true):(Bu q c (Cs rs q)).1=Cs (EL rs c) q:=by
 obtain ⟨A,B,e1,e2⟩:=Pz hf;have f1:rs.filter (inQ q)=A.filter (inQ q)++(bfQ q c).toList++B.filter (inQ q):=by
  conv=>lhs;rw [e1]
  rw [Hj,Hj,TH]
 have f2:(EL rs c).filter (inQ q)=A.filter (inQ q)++(afQ q c).toList++B.filter (inQ q):=by
  rw [e2,Hj,Hj,TK]
 have p1:=Hl K rs;have p2:=Hl K (EL rs c)
 rw [f1]at p1;rw [f2]at p2;have hk:=K.2.2.2
 have l1:=p1.length_eq;have l2:=p2.length_eq
 simp only [Bm]at l1 l2;have m1:(D5 q (CR rs q)).Perm ((D5 q (A.filter (inQ q))++D5 q (B.filter (inQ q)))++((bfQ q c).map fun r=>Bl r q.bq).toList):=by
  rw [<-ZC,<-Ox,<-Ox];refine (p1.map _).trans (List.Perm.map _ ?_);simp only [CT];exact RT _ LR
 have m2:(D5 q (CR (EL rs c) q)).Perm ((D5 q (A.filter (inQ q))++D5 q (B.filter (inQ q)))++((afQ q c).map fun r=>Bl r q.bq).toList):=by
  rw [<-ZC,<-Ox,<-Ox];refine (p2.map _).trans (List.Perm.map _ ?_);simp only [CT];exact RT _ LR
 have hx:∀lt:Int->Int->Bool,(∀a b c,lt b a=false->lt c b=false->lt c a=false)->(∀a,lt a a=false)->(∀a b,lt a b=true->lt b a=false)->(∀a b,lt a b=false->lt b a=false->a=b)->(Jz lt (bfQ q c).isSome (afQ q c).isSome (mQ q (bfQ q c)) (mQ q (afQ q c)) (EY lt (D5 q (CR rs q)))).2=true->(Jz lt (bfQ q c).isSome (afQ q c).isSome (mQ q (bfQ q c)) (mQ q (afQ q c)) (EY lt (D5 q (CR rs q)))).1=EY lt (D5 q (CR (EL rs c) q)):=fun lt O U W X h9=>by
  rw [PK lt O U W X (fun y=>m1.mem_iff),fG,fG,jO,jO]at h9⊢;rw [PK lt O U W X (fun y=>m2.mem_iff)];exact o5 lt O U W X _ _ _ h9
 unfold Bu Cs FR at h⊢;unfold Ct at J;rcases (by omega:(q.kd=1\/q.kd=2)\/q.kd=3\/q.kd=4\/q.kd=5\/q.kd=6)with h8|h8|h8|h8|h8
 · have G:¬q.kd=3:=by omega
   have I:¬q.kd=4:=by omega
   have Z:¬q.kd=5:=by omega
   have g6:¬q.kd=6:=by omega
   simp only [Ax h8,G,I,Z,g6,h7,HT,Sm K hs hf]
 · have m:¬(q.kd=1\/q.kd=2):=by omega
   simp only [As m,Ax h8]at J⊢;unfold Uc at J;cases hb:bfQ q c<;>cases ha:afQ q c<;>rw [hb,ha]at J<;>rw [hb]at l1<;>rw [ha]at l2<;>simp at J l1 l2⊢<;>omega
 · have m:¬(q.kd=1\/q.kd=2):=by omega
   have G:¬q.kd=3:=by omega
   simp only [As m,G,Ax h8,HT];have s1:=Mc m1
   have s2:=Mc m2;rw [YB,wy,<-fG]at s1 s2;have g:∀l,Lh l=Jt l:=fun l=>by unfold Lh;rw [Ms];omega
   simp only [g];congr 1;omega
 · have m:¬(q.kd=1\/q.kd=2):=by omega
   have G:¬q.kd=3:=by omega
   have I:¬q.kd=4:=by omega
   simp only [As m,G,I,Ax h8,HT]at h⊢;exact hx _ (fun a b c h1 h2=>by simp only [MD]at*;omega) (fun a=>by simp) (fun a b h=>by simp only [GO,MD]at*;omega) (fun a b h1 h2=>by simp only [MD]at*;omega) h
 · have m:¬(q.kd=1\/q.kd=2):=by omega
   have G:¬q.kd=3:=by omega
   have I:¬q.kd=4:=by omega
   have Z:¬q.kd=5:=by omega
   simp only [As m,G,I,Z,Ax h8,HT]at h⊢;exact hx _ (fun a b c h1 h2=>by simp only [MD]at*;omega) (fun a=>by simp) (fun a b h=>by simp only [GO,MD]at*;omega) (fun a b h1 h2=>by simp only [MD]at*;omega) h
theorem Fs(m:BP rs)(k:Int)(x:AR):Dc q (IM rs q.ot) k=some x↔x∈rs/\x.is q.ot k:=by
 have J:∀a∈rs,∀b∈rs,a.is q.ot k->b.is q.ot k->a=b:=fun a G b I B h2=>by
  have e1:=KU m G B;have e2:=KU m I h2
  rw [e1]at e2;injection e2
 have g:∀y,y∈IM rs q.ot/\decide (y.t=q.ot/\y.k=k)=true↔y∈rs/\y.is q.ot k:=fun y=>by
  unfold IM inT AR.is;rw [Fc,GO,GO];constructor;· rintro ⟨⟨a,_⟩,b⟩;exact ⟨a,b⟩
  · rintro ⟨a,b⟩;exact ⟨⟨a,b.1⟩,b⟩
 unfold Dc;constructor
 · intro h
   exact (g x).1 ⟨cy h,by simpa using dp (p:=fun x:AR=>decide (x.t=q.ot/\x.k=k)) h⟩
 · intro h
   cases hf:(IM rs q.ot).find? fun x=>decide (x.t=q.ot/\x.k=k)with
   |none=>
    have:=cP.1 hf x ((g x).2 h).1;exact absurd ((g x).2 h).2 this
   |some y=>
    have h2:=(g y).1 ⟨cy hf,by simpa using dp (p:=fun x:AR=>decide (x.t=q.ot/\x.k=k)) hf⟩;rw [J y h2.1 x h.1 h2.2 h.2]
def prQ(rs:List AR)(q:QM)(r:AR):Option Ba:=(Dc q (IM rs q.ot) (Bl r q.bq)).map fun x=>⟨r,x⟩
def pA(rs:List AR)(q:QM):List Ba:=(CR rs q).filterMap (prQ rs q)
theorem ZO(rs:List AR)(q:QM):∀l:List AR,Io q l (IM rs q.ot)=DZ (l.filterMap (prQ rs q))
 |[]=>rfl
 |r::l=>by
  have h:=ZO rs q l;unfold Io at h⊢;rw [HW,h,lx];unfold Il prQ;cases Dc q (IM rs q.ot) (Bl r q.bq)<;>rfl
theorem eT(ps:List Ba):F3 (DZ ps)=ps:=by
 have G:(DZ ps).length=2*ps.length:=IC ps;have g:∀(ps:List Ba) (k:Nat) (p:Ba),ps[k]?=some p->(DZ ps)[2*k]?=some p.l/\(DZ ps)[2*k+1]?=some p.r:=by
  intro ps;induction ps with
  |nil=>intro k p h;cases h
  |cons a ps ih=>
   intro k p h;have e:DZ (a::ps)=a.l::a.r::DZ ps:=rfl
   rw [e];cases k with
   |zero=>injection h with h;subst h;exact ⟨rfl,rfl⟩
   |succ k=>
    have:=ih k p h;rw [show 2*(k+1)=2*k+2 by omega];exact this
 apply Mb;intro k;have m:(F3 (DZ ps)).length=ps.length:=by rw [KJ];omega
 rcases FF k ps.length with h|h
 · obtain ⟨B,h2⟩:=g ps k _ (BT h)
   unfold F3;rw [DP,Ss A0,N2,Mz,Mz,B,h2,BT h];rfl
 · rw [MT A0,MT h]
theorem xQ{α:Type}{a b:Option α}(h:∀x,a=some x↔b=some x):a=b:=Option.ext h
theorem VP{r:AR}{p:Ba}(h:prQ rs q r=some p):p.l=r/\Dc q (IM rs q.ot) (Bl r q.bq)=some p.r:=by
 unfold prQ at h;cases hp:Dc q (IM rs q.ot) (Bl r q.bq)with
 |none=>rw [hp]at h;cases h
 |some x=>rw [hp]at h;injection h with h;subst h;exact ⟨rfl,rfl⟩
theorem Tq{α β:Type}{f g:α->Option β}:∀{l:List α},(∀x∈l,f x=g x)->l.filterMap f=l.filterMap g
 |[],_=>rfl
 |x::l,h=>by rw [lx,lx,h x B4,Tq fun y m=>h y (by simp [m])]
theorem NL{α β γ:Type}(f:α->Option β)(g:β->Option γ)(h:α->Option γ)(l:List α)(e:∀x∈l,(f x).bind g=h x):(l.filterMap f).filterMap g=l.filterMap h:=by
 rw [nh];exact Tq e
theorem ui(g:Ba->Bool)(A B:List Ba)(y:Ba)(m:∀x∈A,g x=false)(G:∀x∈B,g x=true):P9 g (A++B) y=A++[y]++B:=by
 have e:((A++B).findIdx? g).getD (A++B).length=A.length:=by
  rw [List.findIdx?_append,da.2 m];cases B with
  |nil=>simp
  |cons b B=>rw [List.findIdx?_cons,G b B4];simp
 unfold P9;rw [e];simp
theorem Yq(hq:BK q)(K:BP rs)(X:GX rs c)(h7:q.kd=7)(ht:Ct q c=true)(h:(Bu q c (Cs rs q)).2=true):(Bu q c (Cs rs q)).1=Cs (EL rs c) q:=by
 have j3:=JE K X;have gy:∀rs,Cs rs q=⟨DZ (pA rs q),0,false⟩:=fun rs=>by
  unfold Cs FR;simp only [show¬q.kd=3 by omega,show¬q.kd=4 by omega,show¬q.kd=5 by omega,show¬q.kd=6 by omega,h7,Hv,HT];rw [ZO];rfl
 have l9:∀r,Bu q c r=DK q c r:=fun r=>by
  unfold Bu;simp only [show¬(q.kd=1\/q.kd=2) by omega,show¬q.kd=3 by omega,show¬q.kd=4 by omega,show¬q.kd=5 by omega,show¬q.kd=6 by omega,HT]
 have o9:O1 q c=true\/c.t=q.ot:=by
  unfold Ct at ht;simp only [show¬(q.kd=1\/q.kd=2) by omega,show¬q.kd=3 by omega,show¬q.kd=4 by omega,show¬(q.kd=5\/q.kd=6) by omega,HT,S3,GO]at ht;exact ht
 rw [l9,gy]at h⊢;rw [gy];unfold DK at h⊢;split;· rename_i g;rw [Ax g]at h;cases h
 rename_i hto;rw [As hto]at h;simp only [eT]at h⊢;congr 2;have ek:c.t≠q.tb->CR (EL rs c) q=CR rs q:=fun ic=>by
  refine (Ru hq j3 (Rv hq K) (fun x=>?_) (Es K _ _ _ _)).symm;rw [OU hq,GA K X];constructor
  · rintro ⟨a,b⟩
    exact ⟨.inl ⟨a,fun g=>ic (g.1.symm.trans (HO b).1)⟩,b⟩
  · rintro ⟨⟨a,_⟩|⟨a,rfl⟩,b⟩
    · exact ⟨a,b⟩
    · exact absurd (HO b).1 ic
 unfold jnT pA at h⊢;by_cases G:c.t=q.ot
 · rw [Ax G]at h⊢
   rw [ek A0];have U:∀k,Dc q (IM (EL rs c) q.ot) k=if k=c.k then(if c.has then some ⟨c.t,c.k,c.n⟩else none)else Dc q (IM rs q.ot) k:=fun k=>by
    apply xQ;intro x;rw [Fs j3,GA K X];unfold AR.is;split
    · rename_i m
      split
      · rename_i O
        rw [Option.some_inj];constructor
        · rintro ⟨⟨_,a⟩|⟨_,rfl⟩,b,d⟩
          · exact absurd ⟨b.trans G.symm,d.trans m⟩ a
          · rfl
        · rintro rfl;exact ⟨.inr ⟨O,rfl⟩,G,m.symm⟩
      · rename_i O
        constructor
        · rintro ⟨⟨_,a⟩|⟨a,_⟩,b,d⟩
          · exact absurd ⟨b.trans G.symm,d.trans m⟩ a
          · exact absurd a O
        · intro g;cases g
    · rename_i m
      rw [Fs K];unfold AR.is;constructor
      · rintro ⟨⟨a,_⟩|⟨_,rfl⟩,b⟩
        · exact ⟨a,b⟩
        · exact absurd b.2.symm m
      · rintro ⟨a,b,d⟩
        exact ⟨.inl ⟨a,fun g=>m (d.symm.trans g.2)⟩,b,d⟩
   have af:c.had=true->∃x,Dc q (IM rs q.ot) c.k=some x:=fun O=>by
    obtain ⟨r,hr,hi,_⟩:=JM (X.1.trans O);exact ⟨r,(Fs K c.k r).2 ⟨hr,by rw [<-G];exact hi⟩⟩
   have J:∀{k x},Dc q (IM rs q.ot) k=some x->x.k=k:=fun g=>((Fs K _ _).1 g).2.2;split
   · rename_i O
     rw [Ax O]at h;obtain ⟨x0,W⟩:=af h;rw [<-List.filterMap_eq_map];refine NL _ _ _ _ fun r _=>?_;unfold prQ;rw [U,O];by_cases m:Bl r q.bq=c.k
     · rw [m,W,Ax rfl]
       simp only [N2,J1,Function.comp_apply,H9,J W,decide_true,Hv]
     · rw [As m]
       cases I:Dc q (IM rs q.ot) (Bl r q.bq)with
       |none=>rfl
       |some x=>simp only [N2,J1,Function.comp_apply,H9,J I,m,al,N0,HT]
   · rename_i O
     rw [As O]at h;rw [<-nj];refine NL _ _ _ _ fun r _=>?_;unfold prQ;rw [U,As O];by_cases m:Bl r q.bq=c.k
     · rw [m,Ax rfl]
       obtain ⟨x0,W⟩:=af h;rw [W];simp [Option.guard,H9,J W]
     · rw [As m]
       cases I:Dc q (IM rs q.ot) (Bl r q.bq)with
       |none=>rfl
       |some x=>simp [Option.guard,H9,J I,m]
 · rw [As G]at h⊢
   have hg:∀r,prQ (EL rs c) q r=prQ rs q r:=fun r=>by unfold prQ;rw [iZ X G]
   have l8:prQ (EL rs c) q=prQ rs q:=funext hg;rw [l8];have o8:c.t=q.tb:=by
    rcases o9 with g|g
    · unfold O1 at g
      rw [S3]at g;rcases g with g|g
      · obtain ⟨y,hy⟩:=ie.1 g
        obtain ⟨e,_,hi⟩:=Ou hy;rw [e]at hi;exact (HO hi).1
      · obtain ⟨y,hy⟩:=ie.1 g
        obtain ⟨e,_,hi⟩:=Ou hy;rw [e]at hi;exact (HO hi).1
    · exact absurd g G
   have dn:((CR rs q).filterMap (prQ rs q)).filter (fun p=>!QF c.k p)=((CR rs q).filter fun x=>!Jw c x).filterMap (prQ rs q):=by
    rw [<-nj,<-nj,nh,nh];refine Tq fun r hr=>?_;have Z:r.t=c.t:=((HO ((OU hq rs r).1 hr).2).1).trans o8.symm
    by_cases m:r.k=c.k
    · cases I:prQ rs q r with
      |none=>simp [Option.guard,Jw,Z,m]
      |some p=>simp [Option.guard,Jw,Z,m,QF,(VP I).1]
    · cases I:prQ rs q r with
      |none=>simp [Option.guard,Jw,Z,m,I]
      |some p=>simp [Option.guard,Jw,Z,m,QF,(VP I).1,I]
   rw [dn]at h⊢;have gm:=Sm hq K X
   rw [<-gm];unfold E9;cases ha:afQ q c with
   |none=>rfl
   |some y=>
    rw [ha]at h;simp only [ha]at h⊢;have hm:mQ q (some y)=Bl y q.bq:=rfl
    rw [hm]at h⊢;have hL:((CR rs q).filter fun x=>!Jw c x).Pairwise (leV q.cl.toNat):=(Es K _ _ _ _).sublist Sp
    obtain ⟨A,B,e1,e2,hA,hB⟩:=Vq hq hL y;rw [e2];cases hfi:((CR rs q).filterMap (prQ rs q)).findIdx? (H9 (Bl y q.bq))with
    |none=>
     have hi:Gu (H9 (Bl y q.bq)) ((CR rs q).filterMap (prQ rs q))=-1:=by unfold Gu;rw [hfi];rfl
     rw [hi,Ax B1]at h⊢;rw [G0,GO]at h;obtain ⟨b,hb⟩:=ie.1 h.1;obtain ⟨eb,gq,kv⟩:=Ou hb;have g:=h.2
     rw [hb]at g;have l5:b∈CR rs q:=by
      refine (OU hq rs b).2 ⟨?_,kv⟩;obtain ⟨r,hr,hi,_,he⟩:=JM (X.1.trans gq);have hv:=X.2 (X.1.trans gq)
      rw [he]at hv;have:b=r:=by
       rw [eb];obtain ⟨t,k,v⟩:=r;obtain ⟨h5,h6⟩:=hi;simp only at h5 h6 hv;subst h5 h6 hv;rfl
      rw [this];exact hr
     have bn:prQ rs q b=none:=by
      cases I:prQ rs q b with
      |none=>rfl
      |some p=>
       have ax:=da.1 hfi p (bj.2 ⟨b,l5,I⟩);have j5:=(Fs K _ _).1 (VP I).2
       unfold H9 at ax;rw [MD]at ax;exact absurd (j5.2.2.trans g) ax
     have cu:prQ rs q y=none:=by
      unfold prQ at bn⊢;rw [show Bl y q.bq=Bl b q.bq from g.symm];cases I:Dc q (IM rs q.ot) (Bl b q.bq)with
      |none=>rfl
      |some x=>rw [I]at bn;cases bn
     rw [e1,eo,eo,eo];simp [cu]
    |some i=>
     obtain ⟨h1,h2,h3⟩:=an.1 hfi;have hi:Gu (H9 (Bl y q.bq)) ((CR rs q).filterMap (prQ rs q))=(i:Int):=by unfold Gu;rw [hfi];rfl
     rw [hi,As A0]at h⊢;rw [UP,Mz,BT h1,fN];obtain ⟨r,hr,I⟩:=bj.1 (od h1);generalize ((CR rs q).filterMap (prQ rs q))[i]=p at h2 I;have h4:=(Fs K _ _).1 (VP I).2
     unfold H9 at h2;rw [GO]at h2;have cu:prQ rs q y=some ⟨y,p.r⟩:=by
      unfold prQ;rw [(Fs K (Bl y q.bq) p.r).2 ⟨h4.1,h4.2.1,h2⟩];rfl
     rw [e1,eo,ui];· simp [cu]
     · intro x hx
       obtain ⟨r9,d9,cO⟩:=bj.1 hx;rw [(VP cO).1];exact hA r9 d9
     · intro x hx
       obtain ⟨r9,d9,cO⟩:=bj.1 hx;rw [(VP cO).1];exact hB r9 d9
theorem eG(B:BK q)(G:BP rs)(m:GX rs c)(I:Ct q c=true)(h:(Bu q c (Cs rs q)).2=true):(Bu q c (Cs rs q)).1=Cs (EL rs c) q:=by
 by_cases g:q.kd=7
 · exact Yq B G m g I h
 · exact Yr B G m g I h
def GN(q:QM)(base:Int):Nat->CB×Int->List BQ->Option (CB×Int)
 |_,st,[]=>some st
 |i,st,x::l=>if(BX q st.1 x.cs).2.2=true/\base<=9223372036854775806 -(i:Int)/\x.p=base+1+(i:Int)then GN q base (i+1) ((BX q st.1 x.cs).1,if(BX q st.1 x.cs).2.1 then x.p else st.2) l else none
theorem OZ(q:QM)(base:Int):∀(a:List BQ) (i:Nat) (st:CB×Int) (b:List BQ),GN q base i st (a++b)=(GN q base i st a).bind fun g=>GN q base (i+a.length) g b
 |[],i,st,b=>rfl
 |x::a,i,st,b=>by
  show(if(BX q st.1 x.cs).2.2=true/\base<=9223372036854775806 -(i:Int)/\x.p=base+1+(i:Int)then GN q base (i+1) _ (a++b)else none)=(if(BX q st.1 x.cs).2.2=true/\base<=9223372036854775806 -(i:Int)/\x.p=base+1+(i:Int)then GN q base (i+1) _ a else none).bind _;split;· rw [OZ q base a (i+1) _ b,E3,show i+(a.length+1)=i+1+a.length by omega]
  · rfl
variable{l:List BQ}
theorem J9{base:Int}{st g:CB×Int}{x:BQ}(h:GN q base 0 st (l.take k)=some g)(m:l[k]?=some x):GN q base 0 st (l.take (k+1))=if(BX q g.1 x.cs).2.2=true/\base<=9223372036854775806 -(k:Int)/\x.p=base+1+(k:Int)then some ((BX q g.1 x.cs).1,if(BX q g.1 x.cs).2.1 then x.p else g.2)else none:=by
 have B:=(C4.1 m).1;rw [Bn m,OZ,h,CD,N3 A0,D3];rfl
theorem Md{base:Int}{st:CB×Int}(h:GN q base 0 st (l.take k)=none):GN q base 0 st l=none:=by
 rw [<-J0 k l,OZ,h];rfl
def BB(q:QM)(r:CB)(base:Int)(l:List BQ):CB×Int×Bool:=match GN q base 0 (r,base) l with
 |some st=>(st.1,st.2,true)
 |none=>(CB.none,0,false)
theorem MW(h:(BX q r cs).2.2=true):Hm q r cs=some (BX q r cs).1/\(BX q r cs).2.1=cs.any (Dk q):=by
 unfold BX at*;split at h;· rename_i h9;rw [h9];exact ⟨rfl,rfl⟩
 · cases h
theorem RJ{q:QM}{base:Int}:∀(l:List BQ) (i:Nat) (st st':CB×Int) (B:Int) (n:Nat),GN q base i st l=some st'->(∀x∈l,x.cs.length<=1000)->(-B<=st.1.val/\st.1.val<=B)->0<=B->st.1.rows.length<=n->(-(B+2000000000000*(l.length:Int))<=st'.1.val/\st'.1.val<=B+2000000000000*(l.length:Int))/\st'.1.rows.length<=n+2000*l.length
 |[],i,st,st',B,n,h,hl,h1,h2,h3=>by
  unfold GN at h;injection h with h
  subst h;simp only [KK];exact ⟨⟨by omega,by omega⟩,h3⟩
 |x::l,i,st,st',B,n,h,hl,h1,h2,h3=>by
  unfold GN at h;split at h
  · rename_i h9
    have I:=Ww _ _ _ B n (MW h9.1).1 h1 h2 h3;have J:=hl x B4
    have m:=RJ l (i+1) _ st' (B+2000000000000) (n+2000) h (fun y G=>hl y (by simp [G])) ⟨by simp only;omega,by simp only;omega⟩ A0 (by simp only;omega);rw [E3];obtain ⟨⟨K,O⟩,g⟩:=m;refine ⟨⟨?_,?_⟩,by omega⟩<;>(push_cast;omega)
  · cases h
set_option maxHeartbeats 1000000 in
theorem QZ(q:QM)(hq:BK q)(base:Int)(hb:-9223372036854775808<=base/\base<=9223372036854775807){lv:A4}{ML:List A9}(hL:Ec ML lv l)(o8:l.length<=1000)(U:∀x∈l,x.cs.length<=1000)(hr:EB A rv r.rows)(hn:r.rows.length<=1000000)(hv:-1000000000000000000<=r.val/\r.val<=1000000000000000000):BR prog 80 #[.agg q.A72,.agg #[rv,I4 r.val,.bool r.fnd],I4 base,lv] [A,ML] (fun w H'=>∃af s',w= .tuple #[.agg #[af,I4 (BB q r base l).1.val,.bool (BB q r base l).1.fnd],I4 (BB q r base l).2.1,.bool (BB q r base l).2.2]/\Bd 5 80 af (BB q r base l).1.rows.length (Af (BB q r base l).1.rows) s'/\H'=[s',A,ML]):=by
 have p8:=mL;obtain ⟨pv,cv,rfl,_⟩:=id hr;obtain ⟨pl,kv,rfl,⟨o9,l9⟩,dn⟩:=id hL;refine Se func80 ntmps80 [0,1,2,3] ?_;intro u R;refine A1<|Ze (Bx q.A72)<|AG fun bq=>Ze (Bx #[.slice pv r.rows.length cv,I4 r.val,.bool r.fnd])<|AG fun br=>Ze (Al Ge #[_,_,_])<|AG fun bo=>Za Y<|A5 Y<|A1<|Zm Y<|A5 Y<|A1<|Zh 0 E6 V rfl DA Y<|Zl GP Y<|Zc [_] Y call76 Y V (Gh hr A0) ?_;rintro _ _ ⟨_,⟨s1,h1,rfl⟩,rfl⟩;obtain ⟨g1,c1,rfl⟩:=h1.form;refine Zh 0 E6 V rfl DA Y<|Xe (Zs DA Y Y V (hi:=by(simp;done)))<|A6<|Zq<|A1<|Zm Y<|Zv (Ac HF Y)<|Zm Y<|Z0<|Zn [2,4,5,8,11,22,23,24] ?_;refine Zx<|AQ<|Zb [11,24,2,4,5,8,22,23] ?_;refine BI (e0:=[(11,_),(24,_)]) (fun m e H=>∃(k:Nat) (g:CB×Int) (gk:B8) (ck:Nat) (sk:List A9),m=l.length -k/\(k<=l.length/\GN q base 0 (r,base) (l.take k)=some g/\Bd 5 80 (.slice gk g.1.rows.length ck) g.1.rows.length (Af g.1.rows) sk)/\e=[(11,I4 g.2),(24,I4 (k:Int))]/\H=[[(br,.cells #[.slice gk g.1.rows.length ck,I4 g.1.val,.bool g.1.fnd] 61 (0,0))],sk]) (by exact ⟨0,(r,base),g1,c1,s1,rfl,⟨C7 _,by rw [IF];rfl,h1⟩,rfl,rfl⟩) Wp ?_;rintro _ _ _ ⟨k,g,gk,ck,sk,rfl,⟨hk,B,Z⟩,rfl,rfl⟩;obtain ⟨gy,gq⟩:=RJ (l.take k) 0 (r,base) g 1000000000000000000 1000000 B (fun x J=>U x (On J)) hv A0 hn;have gm:(l.take k).length=k:=by rw [CD];omega
 rw [gm]at gy gq;have d9:=DY Z A0
 refine A1<|Zv (Ay Y Y)<|A6<|Zq<|Aw Y (fun X=>?_) (fun X=>?_);·
  obtain ⟨x,J⟩:∃x,l[k]?=some x:=⟨_,BT X⟩;have j3:=U x (DQ J)
  obtain ⟨cO,g2,l8,O,T2,j5,rfl,ic,l5,W⟩:=dn k x J;refine AC<|Zx<|Zq<|AQ<|A1<|Zm Y<|BU (Ae HF GC Y Y A0)<|CS (cs:=[(g2,.cells O T2 j5)]) (by simp [ic]) (AB (cs:=#[_,_]) Iv GC Y A0 W) V rfl<|Ze (Al TX #[_,_])<|AG fun bx=>Za Y<|Xe (Xw GC #[I4 x.p,.slice x.q x.cs.length x.cap])<|A6<|A1<|Zo Wh (AB (cs:=#[_,_,_,_,_,_,_]) F1 CM Y B5 B0)<|Zo Wh (AB (cs:=#[_,_,_]) Cd B9 Y B5 B0)<|Zo Wh (AB (cs:=#[_,_]) Iv GC Y B5 B0)<|Zc [_,_,_] Y call48 Y V (JP q hq x.p x.q x.cap x.cs cO j3 d9 A0 A0) ?_;rintro _ _ ⟨_,⟨p9,s3,rfl,h3,rfl⟩,rfl⟩;obtain ⟨g3,c3,rfl⟩:=h3.form;refine Zm Y<|Zd Y V<|Zd Y V<|Zd Y V<|Ze (Al Ge #[_,_,_])<|AG fun bn=>Xe (Xw B9 #[.slice g3 (BX q g.1 x.cs).1.rows.length c3,I4 (BX q g.1 x.cs).1.val,.bool (BX q g.1 x.cs).1.fnd])<|Za Y<|AW Y<|Zn [2,4,5,8,11,12,13,14,15,16,22,23,24] ?_;refine Zx<|Zq<|A1<|Zm Y<|Zv (Bt Y)<|Zm Y<|Ah (t:=39) Y V (fun K=>?_) (fun K=>?_);·
   have I:(BX q g.1 x.cs).2.2=false:=by simpa using K
   refine A7 Y V<|A7 Y V<|A7 Y V<|A7 Y V<|Zv (AX Y Y)<|Zm Y<|A7 Y V<|A7 Y V<|A7 Y V<|A7 Y V<|A7 Y V<|A7 Y V<|A7 Y V<|Zv (AX Y Y)<|Z0<|Zn [2,4,5,8,11,13,14,15,22,23,24,53] ?_;refine Zx<|DT Y<|Zq<|Bc ?_;have G:BB q r base l=(CB.none,0,false):=by unfold BB;rw [Md (k:=k+1) (by rw [J9 B J,As (by(rw [I];rintro ⟨h,_⟩;cases h;done))])]
   refine Zg<|Zv (BM (vs:=[]) (cs:=#[_,_,_]) Y (AY (pl:=#[(0,1),(1,1),(2,1)]) Ge E6 (fun _=>by kernel_rfl) rfl))<|Xe (Xw B9 _)<|Za Y<|A5 Y<|AJ<|Zt<|Ab<|Zt<|Zt<|Ab<|Zt<|Hz rfl results80 Y Wh (Au Cd B9 Wn (rfl)) Y Y (by exact ⟨.slice none 0 0,[],by rw [G];rfl,by rw [G];exact Bj 5 _,rfl⟩)
  have I:(BX q g.1 x.cs).2.2=true:=by simpa using K
  refine Zf Y Y<|Zf Y Y<|GU Y (CO (m:=9223372036854775806) Y Y A0 A0) V rfl ?_;refine Yg (Ed Y Y)<|Zv (AL Y Y)<|Zm Y<|Ao (t:=45) Y V (fun ax=>?_) (fun ax=>?_);·
   refine A7 Y V<|A7 Y V<|A7 Y V<|A7 Y V<|A7 Y V<|A7 Y V<|A7 Y V<|Zv (AX Y Y)<|Z0<|Zn [2,4,5,8,11,13,14,15,22,23,24,53] ?_;refine Zx<|DT Y<|Zq<|Bc ?_;have G:BB q r base l=(CB.none,0,false):=by unfold BB;rw [Md (k:=k+1) (by rw [J9 B J,As (by(rintro ⟨_,h8,h9⟩;omega))])]
   refine Zg<|Zv (BM (vs:=[]) (cs:=#[_,_,_]) Y (AY (pl:=#[(0,1),(1,1),(2,1)]) Ge E6 (fun _=>by kernel_rfl) rfl))<|Xe (Xw B9 _)<|Za Y<|A5 Y<|AJ<|Zt<|Ab<|Zt<|Zt<|Ab<|Zt<|Hz rfl results80 Y Wh (Au Cd B9 Wn (rfl)) Y Y (by exact ⟨.slice none 0 0,[],by rw [G];rfl,by rw [G];exact Bj 5 _,rfl⟩)
  refine Yf 0 HE V rfl AE Y<|Yl AH Y<|Zf Y Y<|GU Y (Gm Y Y (IntWalk.i64_in _ A0)) V rfl ?_;refine Zf Y Y<|GU Y (Gm Y Y (IntWalk.i64_in _ A0)) V rfl ?_;refine Yg (Im Y Y)<|Zv (AL Y Y)<|Z0<|Zn [2,4,5,8,11,13,14,15,22,23,24,53] ?_;refine Zx<|Aw Y (fun cu=>?_) (fun cu=>?_);·
   refine Zq<|Bc ?_;have G:BB q r base l=(CB.none,0,false):=by unfold BB;rw [Md (k:=k+1) (by rw [J9 B J,As (by(rintro ⟨_,h8,h9⟩;omega))])]
   refine Zg<|Zv (BM (vs:=[]) (cs:=#[_,_,_]) Y (AY (pl:=#[(0,1),(1,1),(2,1)]) Ge E6 (fun _=>by kernel_rfl) rfl))<|Xe (Xw B9 _)<|Za Y<|A5 Y<|AJ<|Zt<|Ab<|Zt<|Zt<|Ab<|Zt<|Hz rfl results80 Y Wh (Au Cd B9 Wn (rfl)) Y Y (by exact ⟨.slice none 0 0,[],by rw [G];rfl,by rw [G];exact Bj 5 _,rfl⟩)
  refine AC<|Zx<|A1<|Zo Wh (AB (cs:=#[_,_,_]) Cd B9 Y B5 B0)<|Xe (BL B9 Y Y Hb Wu B0 FA B5 (by exact BC _))<|A6<|A1<|Zm Y<|A6<|AU Y (fun ht=>?_) (fun ht=>?_);·
   refine Zg<|Zh 0 HE V rfl AE Y<|Zl AH Y<|AW Y<|A8<|Zx<|Zg<|Ya (n:=1) Y Y<|Zm Y<|Z0<|Zn [11,24,2,4,5,8,22,23] ?_;refine Aa (e':=[(11,_),(24,_)]) (by exact ⟨k+1,((BX q g.1 x.cs).1,x.p),g3,c3,s3,rfl,⟨by omega,by rw [J9 B J,Ax ⟨I,by omega,by omega⟩,ht];rfl,h3⟩,rfl,rfl⟩)
  refine AC<|A8<|Zx<|Zg<|Ya (n:=1) Y Y<|Zm Y<|Z0<|Zn [11,24,2,4,5,8,22,23] ?_;refine Aa (e':=[(11,_),(24,_)]) (by exact ⟨k+1,((BX q g.1 x.cs).1,g.2),g3,c3,s3,rfl,⟨by omega,by rw [J9 B J,Ax ⟨I,by omega,by omega⟩,ht];rfl,h3⟩,rfl,rfl⟩)
 have ek:k=l.length:=by omega
 subst ek;rw [G3]at B;have G:BB q r base l=(g.1,g.2,true):=by unfold BB;rw [B]
 refine BD<|Zt<|Zt<|AV<|Zx<|A1<|Zo Wh (AB (cs:=#[_,_,_]) Cd B9 Y B5 B0)<|Zm Y<|Xe (Xw B9 _)<|Za Y<|A5 Y<|AJ<|Hz rfl results80 Y Wh (Au Cd B9 Wn (rfl)) Y Y (by exact ⟨.slice gk _ ck,sk,by rw [G];rfl,by rw [G];exact Z,rfl⟩)
theorem kN(B:BK q)(G:BP rs)(m:GX rs c)(g:c.ok)(h:(DC q c (Cs rs q)).2=true):(DC q c (Cs rs q)).1=Cs (EL rs c) q:=by
 unfold DC at h⊢;cases ht:Dk q c with
 |false=>
  rw [As B1];unfold Dk at ht;rw [DG g,V1]at ht;exact (uw B m ht).symm
 |true=>
  rw [ht,Ax rfl]at h;rw [Ax rfl];unfold Dk at ht;rw [G0]at ht;split at h
  · rename_i h9
    rw [Ax h9];exact eG B G m ht.2 h9
  · cases h
theorem VF{q:QM}(G:BK q){rs:List AR}{cs:List Chg}(I:BP rs)(m:yo cs)(B:∀c∈cs,GX rs c)(g:∀c∈cs,c.ok):∀i,i<=cs.length->∀r,Hm q (Cs rs q) (cs.take i)=some r->r=Cs (DV rs (cs.take i)) q
 |0,_,r,h=>by
  rw [IF]at h⊢;injection h with h
  exact h.symm
 |i+1,hi,r,h=>by
  obtain ⟨c,hc⟩:∃c,cs[i]?=some c:=⟨_,BT A0⟩;obtain ⟨J,h2⟩:=KV I m B i A0;cases hr:Hm q (Cs rs q) (cs.take i)with
  |none=>
   have:=Pj (cs:=cs.take (i+1)) (k:=i) (q:=q) (r:=Cs rs q) (by rw [V0,N3 A0];exact hr);rw [this]at h;cases h
  |some rk=>
   have e:=VF G I m B g i A0 rk hr;rw [KC hr hc,e]at h;split at h
   · rename_i h9
     injection h with h
     rw [<-h,EP rs cs i c hc];exact kN G J (h2 i c (CI _) hc) (g c (DQ hc)) h9
   · cases h
theorem qP(g:BK q){p rp:Int}(B:BP rs)(h:Ke rs p rp cs)(m:Hm q (Cs rs q) cs=some r):r=Cs (DV rs cs) q:=by
 have:=VF g B (UC h.ok.ord) h.fit (fun c hc=>by obtain ⟨i,hi⟩:=HH hc;exact h.ok.all i c hi) cs.length (CI _) r (by rw [G3];exact m);rwa [G3]at this
def Rf(q:QM)(x:BQ):Bool:=x.cs.any (Dk q)
structure wD(q:QM)(l:List BQ)(base k:Nat)(s:Int):Prop where
 le:(base:Int)<=s/\s<=((base+k:Nat):Int)
 at_:s≠(base:Int)->∃(j:Nat) (x:BQ),(j:Int)+1=s/\l[j]?=some x/\Rf q x=true
 no:∀(j:Nat) (x:BQ),s<=(j:Int)->j<base+k->l[j]?=some x->Rf q x=false
theorem Pi{q:QM}(U:BK q){l:List BQ}(I:FC l){base:Nat}(hb:base<=l.length):∀k,base+k<=l.length->∀st,GN q (base:Int) 0 (Cs (Bb (l.take base)) q,(base:Int)) ((l.drop base).take k)=some st->st.1=Cs (Bb (l.take (base+k))) q/\wD q l base k st.2
 |0,_,st,h=>by
  rw [IF]at h;injection h with h
  subst h;exact ⟨V,⟨by simp only;omega,fun h=>absurd V h,fun j x B h2=>by simp only at B;omega⟩⟩
 |k+1,hk,st,h=>by
  obtain ⟨x,m⟩:∃x,l[base+k]?=some x:=⟨_,BT A0⟩;have J:(l.drop base)[k]?=some x:=by rw [RW];exact m
  obtain ⟨O,_⟩:=I _ x m;have hp:x.p=((base+k:Nat):Int)+1:=O.pos
  cases hr:GN q (base:Int) 0 (Cs (Bb (l.take base)) q,(base:Int)) ((l.drop base).take k)with
  |none=>
   have:=Md (l:=(l.drop base).take (k+1)) (k:=k) (q:=q) (base:=(base:Int)) (st:=(Cs (Bb (l.take base)) q,(base:Int))) (by rw [V0,N3 A0];exact hr);rw [this]at h;cases h
  |some sk=>
   obtain ⟨e1,e2⟩:=Pi U I hb k A0 sk hr;rw [J9 hr J]at h;split at h
   · rename_i h9
     injection h with h
     subst h;have G:=MW h9.1
     have B:=(I.rows (base+k) A0).1;rw [e1]at G;refine ⟨?_,?_⟩
     · have:=qP U B O G.1
       rw [show base+(k+1)=base+k+1 by omega,Bn m,Gg,<-this,e1]
     · have hT:(BX q sk.1 x.cs).2.1=Rf q x:=by rw [e1];exact G.2
       simp only [hT];obtain ⟨⟨a1,W⟩,X,Z⟩:=e2;cases ht:Rf q x with
       |true=>
        simp only [Hv];refine ⟨by omega,fun _=>⟨base+k,x,hp.symm,m,ht⟩,fun j y K h6=>by omega⟩
       |false=>
        simp only [N0,HT];refine ⟨by push_cast at W⊢;omega,X,fun j y K h6 g=>?_⟩;rcases FF j (base+k)with h8|h8
        · exact Z j y K h8 g
        · obtain rfl:j=base+k:=by omega
          rw [m]at g;injection g with g
          rw [<-g];exact ht
   · cases h
theorem Yp(g:1<=q.kd/\q.kd<=4)(c:Chg)(r:CB):(DC q c r).2=true:=by
 have:(Bu q c r).2=true:=by
  unfold Bu;split;· rfl
  · split
    · rfl
    · rw [Ax A0]
 unfold DC;rw [Ax this];split<;>rfl
theorem SC{q:QM}(g:1<=q.kd/\q.kd<=4):∀(cs:List Chg) (r:CB),∃m,Hm q r cs=some m
 |[],r=>⟨r,rfl⟩
 |c::cs,r=>by
  unfold Hm;rw [Ax (Yp g c r)];exact SC g cs _
abbrev Bs:=List UInt8
def ZH(s:Bs):Bs:=sha (0::s)
def JI(a b:Bs):Bs:=sha (1::(a++b))
def Db(n:Nat):Nat:=2^Nat.log2 (n -1)
theorem Oz(n:Nat):0<Db n:=dq _
variable{n:Nat}
theorem P8(h:2<=n):Db n<n:=by
 have:=Nat.log2_self_le (n:=n -1) A0;unfold Db;omega
theorem xg{e:Nat}(g:2^e<n)(h2:n<=2^(e+1)):Db n=2^e:=by
 unfold Db;congr 1;refine (Nat.log2_eq_iff (by have:=dq e;omega)).2 ⟨by omega,by omega⟩
def Dm(l:List Bs):Bs:=
 if h:2<=l.length then JI (Dm (l.take (Db l.length))) (Dm (l.drop (Db l.length)))
 else match l with
  |[]=>sha []
  |x::_=>ZH x
termination_by l.length
decreasing_by
 · have:=P8 h;rw [CD];omega
 · have:=Oz l.length;rw [CH];omega
theorem qg:Dm []=sha []:=by rw [Dm];rfl
theorem qf(x:Bs):Dm [x]=ZH x:=by rw [Dm];rfl
theorem kw{l:List Bs}(h:2<=l.length):Dm l=JI (Dm (l.take (Db l.length))) (Dm (l.drop (Db l.length))):=by
 rw [Dm,dif_pos h]
theorem VK{a b:List Bs}{e:Nat}(g:a.length=2^e)(h0:0<b.length)(B:b.length<=2^e):Dm (a++b)=JI (Dm a) (Dm b):=by
 have G:=dq e;have m:Db (a++b).length=a.length:=by
  rw [g];exact xg (by rw [Bm];omega) (by rw [Bm,fg];omega)
 rw [kw (by rw [Bm];omega),m,HX,X1];· rfl
 · rfl
structure JU(ps:List (List Bs)):Prop where
 pow:∀p∈ps,∃e,p.length=2^e
 lt:ps.Pairwise (fun a b=>b.length<a.length)
theorem vR:JU []:=⟨by simp,.nil⟩
theorem rU{a b:Nat}(h:2^a<2^b):2*2^a<=2^b:=by
 have:=(Nat.pow_lt_pow_iff_right (a:=2) A0).1 h
 calc 2*2^a=2^(a+1):=by rw [fg];omega
  _<=2^b:=Nat.pow_le_pow_right A0 this
variable{p:List Bs}{ps:List (List Bs)}
theorem JU.tail(h:JU (p::ps)):JU ps:=⟨fun q g=>h.pow q (by simp [g]),(PC.1 h.lt).2⟩
theorem JU.init(h:JU (ps++[p])):JU ps:=⟨fun q g=>h.pow q (by simp [g]),(P0.1 h.lt).1⟩
theorem JU.sum:∀{ps:List (List Bs)} {e:Nat},JU ps->(∀p∈ps,p.length<2^e)->ps.flatten.length<2^e
 |[],e,_,_=>by simpa using dq e
 |p::ps,e,h,hl=>by
  obtain ⟨e1,g⟩:=h.pow p B4;have h2:=hl p B4
  rw [g]at h2;have B:=rU h2
  have G:=JU.sum (e:=e1) h.tail (fun q m=>by rw [<-g];exact (PC.1 h.lt).1 q m);rw [CA,Bm,g];omega
theorem JU.nonempty(h:JU ps)(g:ps≠[]):0<ps.flatten.length:=by
 cases ps with
 |nil=>exact absurd rfl g
 |cons p ps=>
  obtain ⟨e,m⟩:=h.pow p B4;have:=dq e
  rw [CA,Bm];omega
theorem JU.root:∀{ps:List (List Bs)} {q:List Bs},JU (ps++[q])->ps.foldr (fun p o=>JI (Dm p) o) (Dm q)=Dm (ps.flatten++q)
 |[],q,_=>by simp
 |p::ps,q,h=>by
  rw [List.foldr_cons,JU.root (ps:=ps) (q:=q) h.tail,CA,CT];obtain ⟨e,m⟩:=h.pow p B4;have G:(ps++[q]).flatten=ps.flatten++q:=by simp
  have B:JU (ps++[q]):=h.tail;have g:0<(ps++[q]).flatten.length:=JU.nonempty B B4
  have h2:=JU.sum (e:=e) B (fun r I=>by rw [<-m];exact (PC.1 h.lt).1 r I);rw [G]at g h2;exact (VK m g A0).symm
structure O4(ls:List Bs)(ps:List (List Bs))(q:List Bs)(i:Nat):Prop where
 bin:JU ps
 pow:∃e,q.length=2^e
 le:∀p∈ps,q.length<=p.length
 flat:ps.flatten++q=ls.take i
variable{ls:List Bs}{i:Nat}
theorem mM{s:Bs}(h:JU ps)(m:ps.flatten=ls.take i)(G:ls[i]?=some s):O4 ls ps [s] (i+1):=
 ⟨h,⟨0,rfl⟩,fun p B=>by
   obtain ⟨e,g⟩:=h.pow p B;have:=dq e
   rw [g];simp;omega,by rw [PF,G,m];rfl⟩
theorem O4.step{q:List Bs}(h:O4 ls (ps++[p]) q i)(e:p.length=q.length):O4 ls ps (p++q) i/\Dm (p++q)=JI (Dm p) (Dm q):=by
 obtain ⟨e1,g⟩:=h.pow;have I:=dq e1
 refine ⟨⟨h.bin.init,⟨e1+1,by rw [Bm,e,g,fg];omega⟩,?_,?_⟩,VK (e.trans g) A0 A0⟩
 · intro r B
   obtain ⟨e2,h2⟩:=h.bin.pow r (by simp [B]);have m:=(P0.1 h.bin.lt).2.2 r B p B4
   rw [e,g,h2]at m;have G:=rU m
   rw [Bm,e,g,h2];omega
 · rw [<-h.flat];simp
theorem O4.done{q:List Bs}(h:O4 ls ps q i)(I:∀m p,ps=m++[p]->p.length≠q.length):JU (ps++[q])/\(ps++[q]).flatten=ls.take i:=by
 refine ⟨⟨?_,?_⟩,by rw [<-h.flat];simp⟩
 · intro r B
   rcases C2.1 B with B|B
   · exact h.bin.pow r B
   · rw [C5]at B
     subst B;exact h.pow
 · rw [P0]
   refine ⟨h.bin.lt,List.pairwise_singleton _ _,?_⟩;intro a g b J;rw [C5]at J;subst J;rcases ij ps with rfl|⟨m,p,rfl⟩
   · simp at g
   · have K:=I m p B4
     have h2:=h.le p B4;have G:=h.bin.lt
     simp only [nt]at g G;rw [P0]at G;rcases C2.1 g with g|g
     · have:=G.2.2 a g p B4
       omega
     · rw [C5]at g
       subst g;omega
variable{xs:List A4}
theorem wu{cur:AK}(h:cur.toList.take xs.length=xs){x:A4}(m:xs[i]?=some x):cur[i]?=some x:=by
 have g:=(C4.1 m).1;rw [<-h,HI,Ax g,HQ]at m;exact m
theorem uY(ps:List (List Bs))(o:Bs):(ps.map Dm).reverse.foldl (fun o r=>JI r o) o=ps.foldr (fun p o=>JI (Dm p) o) o:=by
 rw [List.foldl_reverse,List.foldr_map]
def Eb(M:List A9)(v:A4)(ls:List Bs):Prop:=∃p cap,v= .slice p ls.length cap/\(ls.length<=maxLen/\ls.length<=cap)/\∀(i:Nat) (s:Bs),ls[i]?=some s->∃g off cur T zz,p=some ⟨g,off,none⟩/\(g,Obj.cells cur T zz)∈M/\cur[off+i]?=some (G7 s)
def rtV(p:List Bs):A4:=G7 (Dm p)
def lnV(p:List Bs):A4:=I4 ((p.length:Nat):Int)
variable{e:AM}{s:List A9}
theorem Pm{sz:Nat}{b:B8}{c:Nat}(h:Bd sz e (.slice b n c) n xs s)(k:Nat)(B:k<=n):Bd sz e (.slice b k c) k (xs.take (k*sz)) s:=by
 obtain ⟨G,h⟩:=h;refine ⟨by rw [CD,G,N3 (Tr _ B)],?_⟩;rcases h with⟨m,rfl,rfl⟩|⟨g,cap',cur,z,m,rfl,h2,h3,h4,h5,h6⟩
 · injection m with e1 e2 e3
   subst e1 e3;obtain rfl:k=0:=by omega
   exact .inl ⟨V,V,V⟩
 · injection m with e1 e2 e3
   subst e1 e3;refine .inr ⟨g,c,cur,z,V,V,by omega,h3,h4,?_,h6⟩;rw [<-h5,V0,N3 (Tr _ B)]
variable{v:A4}
theorem Lj(h:Bd 1 e v n xs s)(h0:0<n):∃g cap cur z,v=I6 g n cap/\s=[(g,.cells cur e z)]/\n<=cap/\∀(i:Nat) (x:A4),xs[i]?=some x->cur[i]?=some x:=by
 obtain ⟨I,⟨_,B,_⟩|⟨g,m,cur,z,B,rfl,h2,K,O,G,U⟩⟩:=h;· omega
 · rw [<-I]at G
   exact ⟨g,m,cur,z,B,V,h2,fun i x J=>wu G J⟩
theorem Eb.mono{M m:List A9}(h:Eb M v ls)(J:∀c∈M,c∈m):Eb m v ls:=by
 obtain ⟨p,cap,e,I,G⟩:=h;refine ⟨p,cap,e,I,fun i s K=>?_⟩;obtain ⟨g,off,cur,T,zz,e1,B,h2⟩:=G i s K;exact ⟨g,off,cur,T,zz,e1,J _ B,h2⟩
theorem He(h:Bd 1 e v ls.length (ls.map G7) s)(G:ls.length<=maxLen):Eb s v ls:=by
 rcases PB ls.length with h0|h0
 · obtain ⟨b,cap,rfl⟩:=h.form
   exact ⟨b,cap,rfl,⟨G,by omega⟩,fun i s m=>by rw [Ln h0]at m;simp at m⟩
 · obtain ⟨g,cap,cur,z,rfl,rfl,B,I⟩:=Lj h h0
   refine ⟨_,cap,V,⟨G,B⟩,fun i s m=>⟨g,0,cur,e,z,V,by simp,?_⟩⟩;rw [D3];exact I i _ (by rw [DP,m];rfl)
theorem Lr(l:List Bs):(Dm l).length=32:=by
 rw [Dm];split;· exact Ws _
 · split<;>exact Ws _
theorem mg(s:Bs)(I:s.length<=140737488354000)(g:AM)(G:Nat×Nat):BJ prog 238 #[.string (str s)] [[(4,.cells (Ew.map Cz).toArray g G)]] (.string (str (ZH s))):=by
 refine Se func238 ntmps238 [0] ?_;intro u R;refine A1<|A5 Y<|A1<|Zc [_] Y call272 Y V (Qk (str [0])) ?_;rintro _ _ ⟨_,⟨B,rfl,rfl⟩,rfl⟩;refine Zm Y<|Ze (Ai (vs:=[_]) (cs:=[_]) DH Fm HS Y V rfl V rfl V)<|AG fun m=>Xr [_] Y call301 Y V (M7 m 0 1 B #[G7 s] _ _ _ _ [s] [0] V B4 B4 Hi _ _)<|A5 Y<|AJ<|AP V results238 Y (by exact ⟨by simp [ZH],V⟩)
theorem Vf(a b:Bs)(I:a.length<=1000000000)(J:b.length<=1000000000)(g:AM)(G:Nat×Nat):BJ prog 239 #[.string (str a),.string (str b)] [[(4,.cells (Ew.map Cz).toArray g G)]] (.string (str (JI a b))):=by
 refine Se func239 ntmps239 [0,1] ?_;intro u R;refine A1<|A5 Y<|A1<|Zc [_] Y call272 Y V (Qk (str [1])) ?_;rintro _ _ ⟨_,⟨B,rfl,rfl⟩,rfl⟩;refine Zm Y<|Zm Y<|Ze (Ai (vs:=[_,_]) (cs:=[_,_]) DH Fm HS Y V rfl V rfl V)<|AG fun m=>Xr [_] Y call301 Y V (M7 m 0 2 B #[G7 a,G7 b] _ _ _ _ [a,b] [1] V B4 B4 Hi _ _)<|A5 Y<|AJ<|AP V results239 Y (by exact ⟨by simp [JI],V⟩)
end Go.Proofs.YthhakdmlpngcmaaGreatDoor
