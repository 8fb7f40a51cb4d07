/- The patches of least and greatest values; the patch of a kind. -/
import Derived.Test.YtelliknjeemfoaaGreatDoorPj4
set_option linter.unusedVariables false
set_option linter.unusedSimpArgs false
namespace Go.Proofs.YtelliknjeemfoaaGreatDoor
open Go.Proofs.Tryz
open Go Go.RowKit Gw
set_option maxRecDepth 100000
attribute [local irreducible] Gw.At Gw.Nx Gw.Ops
def CB(q:QM)(c:Chg)(r:C8):C8×Bool:=
 if q.kd=1\/q.kd=2 then(⟨EC q c r.rows,r.val,r.fnd⟩,true)
 else if q.kd=3 then(⟨r.rows,if(afQ q c).isSome then r.val+1 else r.val -1,r.fnd⟩,true)
 else if q.kd=4 then(⟨r.rows,r.val+(mQ q (afQ q c) -mQ q (bfQ q c)),r.fnd⟩,true)
 else if q.kd=5 then Ke (fun a b=>decide (a<b)) (bfQ q c).isSome (afQ q c).isSome (mQ q (bfQ q c)) (mQ q (afQ q c)) r
 else if q.kd=6 then Ke (fun a b=>decide (b<a)) (bfQ q c).isSome (afQ q c).isSome (mQ q (bfQ q c)) (mQ q (afQ q c)) r
 else D8 q c r
theorem dX(q:QM)(c:Chg)(r:C8):(CB q c r).1.rows.length<=r.rows.length+2:=by
 have h:=UG q c r.rows;unfold CB;split;· exact On h (Nat.le_succ _)
 · split
   · exact gh _ _
   · split
     · exact gh _ _
     · split
       · rw [Me];exact gh _ _
       · split
         · rw [Me];exact gh _ _
         · exact dZ q c r
set_option maxHeartbeats 1000000 in
theorem VL(q:QM)(c:Chg)(J K:B8)(o n:Int)(r:C8)(Z:B8)(X O b B:Nat)(lt:Int->Int->Bool)(G:∀(args:AM) (w:A4),(callFunc B args).run prog w= .ok (.enter B args) w)(I:∀x y:Int,Az prog B #[I0 x,I0 y] [] (.bool (lt x y))):Az prog 251 #[.agg (q.HH c J K o n),.agg #[.slice Z X O,I0 r.val,.bool r.fnd],I1 b] [[(b,.cells #[.func (.func B) #[] #[]] 223 (0,0))]] (.tuple #[.agg #[.slice Z X O,I0 (Ke lt J.isSome K.isSome o n r).1.val,.bool (Ke lt J.isSome K.isSome o n r).1.fnd],.bool (Ke lt J.isSome K.isSome o n r).2]):=by
 refine Se func251 ntmps251 [0,1,2] ?_;intro u R;refine A3<|Ze (FN Y (cs:=(q.HH c J K o n)) (GD q c J K o n))<|AF fun be=>Ze (Bx #[.slice Z X O,I0 r.val,.bool r.fnd])<|AF fun br=>Ze (Al HP #[_,_,_])<|AF fun b3=>D2 Y<|Zb [2,3,4,5] ?_;refine Ch (e0:=[]) (H0:=[]) (fun e H=>∃(w1:Bool),(w1=(J.isSome&&(!r.fnd||!lt r.val o)))/\e=[(24,.bool w1)]/\H=[]) Wp ?hx_1 ?hy_1
 case hx_1=>
  refine Zg<|Zh 17 Fl V rfl NO Y<|Zl RM Y ?_;refine Zv (Fp Wc Y Y)<|Zm Y<|Ab (t:=11) Y V (fun h1=>?_) (fun h1=>?_);focus
   refine Yf 2 E4 V rfl FA Y<|Yl GW Y ?_;refine Yg (Bh Y)<|Zf Y Y ?_;refine Ab (t:=15) Y V (fun h2=>?_) (fun h2=>?_);focus
    refine AG<|AG<|AG<|C5<|Yg (AL Y Y)<|Zv (AL Y Y) ?_
   rotate_left
   focus
    refine Yl isAgg223 Y ?_;refine Yf 1 E4 V rfl A6 Y<|Yl AE Y ?_;refine Yf 19 Fl V rfl A6 Y<|Yl AE Y ?_;refine Xr [_,_] Y (G) Y V (I (r.val) (o)) ?_;refine Yg (Bh Y)<|Yg (AO Y Y)<|Zv (AL Y Y) ?_
  rotate_left 2
  focus
   refine AG<|AG<|AG<|AG<|AG<|AG<|Zv (AO Y Y) ?_
  all_goals
   refine Z0<|HM (e:=[(24,_)]) (h:=by exact ⟨_,by simp_all,V,V⟩)
 rintro _ _ ⟨w1,g,rfl,rfl⟩;refine AY Y (fun U=>?_) (fun U=>?_);·
  rw [U]at g;refine Zb [2,3,4,5] ?_;refine Ch (e0:=[(2,_)]) (H0:=[]) (fun e H=>∃(w2:Bool),(w2=((K.isSome&&r.fnd)&&!lt r.val n))/\e=[(7,.bool w2)]/\H=[]) Wp ?hx_5 ?hy_5
  case hx_5=>
   refine Zg<|Zh 18 Fl V rfl NO Y<|Zl RM Y ?_;refine Zv (Fp Wc Y Y)<|Zm Y<|Ab (t:=28) Y V (fun h4=>?_) (fun h4=>?_);focus
    refine Yf 2 E4 V rfl FA Y<|Yl GW Y ?_;refine BT Y Y<|Zm Y<|Ab (t:=32) Y V (fun h5=>?_) (fun h5=>?_);refine Yl isAgg223 Y ?_;refine Yf 1 E4 V rfl A6 Y<|Yl AE Y ?_;refine Yf 20 Fl V rfl A6 Y<|Yl AE Y ?_;refine Xr [_,_] Y (G) Y V (I (r.val) (n)) ?_;refine Yg (Bh Y)<|BT Y Y<|B1 Y<|HM (e:=[(7,_)]) (h:=by exact ⟨_,by simp_all,V,V⟩)
   rotate_left
   focus
    refine AG<|BW Y Y<|Zm Y ?_
   all_goals
    refine AG<|AG<|AG<|C5<|BW Y Y<|B1 Y<|HM (e:=[(7,_)]) (h:=by exact ⟨_,by simp_all,V,V⟩)
  rintro _ _ ⟨w2,af,rfl,rfl⟩;refine A3<|Zh 20 Fl V rfl A6 Y<|Zl AE Y ?_;refine Zh 1 E4 V rfl A6 Y<|Xe (Zs A6 Y Y V (hi:=by(simp;done))) ?_;refine A5<|A3<|Zo Wh (AA (cs:=#[_,_,_]) E3 C3 Y B9 B2) ?_;refine Zm Y<|Xe (Xw C3 _) ?_;refine Ax Y<|Zt<|CP V results251 Y Wh (Av E3 C3 Wn (V)) Y (by
   refine ⟨?_,V⟩;unfold Ke;rw [<-g];clear g;try(rw [<-m];clear m)
   simp_all<;>rfl)
 rw [U]at g;refine B4<|Zq<|A3<|Zh 18 Fl V rfl NO Y<|Zl RM Y ?_;refine Zv (Fp Wc Y Y)<|A5<|AY Y (fun h6=>?_) (fun h6=>?_);focus
  refine Zq<|Zb [2,3,4,5] ?_;refine Ch (e0:=[(2,_)]) (H0:=[]) (fun e H=>∃(w3:Bool),(w3=(!r.fnd||lt n r.val))/\e=[(59,.bool w3)]/\H=[]) Wp ?hx_10 ?hy_10
  case' hx_10=>
   refine Zg<|Zh 2 E4 V rfl FA Y<|Zl GW Y ?_;refine Zv (Bh Y)<|Zm Y<|Ab (t:=52) Y V (fun h7=>?_) (fun h7=>?_);focus
    refine AG<|AG<|AG<|Zv (AL Y Y) ?_
   rotate_left
   focus
    refine Yl isAgg223 Y ?_;refine Yf 20 Fl V rfl A6 Y<|Yl AE Y ?_;refine Yf 1 E4 V rfl A6 Y<|Yl AE Y ?_;refine Xr [_,_] Y (G) Y V (I (n) (r.val)) ?_;refine Zv (AO Y Y) ?_
   all_goals
    refine Z0<|HM (e:=[(59,_)]) (h:=by exact ⟨_,by simp_all,V,V⟩)
  case' hy_10=>
   rintro _ _ ⟨w3,m,rfl,rfl⟩;refine AY Y (fun W=>?_) (fun W=>?_);focus
    rw [W]at m;refine Zg<|Zh 20 Fl V rfl A6 Y<|Zl AE Y ?_;refine Zh 1 E4 V rfl A6 Y<|Xe (Zs A6 Y Y V (hi:=by(simp;done))) ?_;refine A5<|Zg<|Zh 2 E4 V rfl FA Y<|Xe (Zs FA Y Y V (hi:=by(simp;done))) ?_;refine Z0 ?_
   rotate_left
   focus
    rw [W]at m;refine B4<|Zg<|Zh 2 E4 V rfl FA Y<|Xe (Zs FA Y Y V (hi:=by(simp;done))) ?_;refine Z0 ?_
 rotate_left 2
 focus
  refine AC ?_
 all_goals
  refine CD<|Zo Wh (AA (cs:=#[_,_,_]) E3 C3 Y B9 B2) ?_;refine Xe (Xw C3 _) ?_;refine Ax Y<|CP V results251 Y Wh (Av E3 C3 Wn (V)) Y (by
   refine ⟨?_,V⟩;unfold Ke;rw [<-g];clear g;try(rw [<-m];clear m)
   simp_all<;>rfl)
theorem tK(x y:Int):Az prog 208 #[I0 x,I0 y] [] (.bool (decide (x<y))):=by
 refine Se func208 ntmps208 [0,1] ?_;intro u R;refine A3<|AH Y<|AN Y<|Zm Y<|Zv (Dz Y Y)<|Ax Y<|AX V results208 Y (by exact ⟨V,V⟩)
theorem tN(x y:Int):Az prog 210 #[I0 x,I0 y] [] (.bool (decide (y<x))):=by
 refine Se func210 ntmps210 [0,1] ?_;intro u R;refine A3<|AH Y<|AN Y<|Zm Y<|Zv (Ev Y Y)<|Ax Y<|AX V results210 Y (by exact ⟨V,V⟩)
def GZ(k:Int):Nat:=if k=1 then 201 else if k=2 then 201 else if k=3 then 203 else if k=4 then 205 else if k=5 then 251 else if k=6 then 251 else 212
def IX(b5 b6:Nat)(k:Int):List A2:=if k=5 then [I1 b5]else if k=6 then [I1 b6]else []
theorem Vh{lm:List (Int×A2)}{g m:Nat}(h:∀p,p∈lm↔p∈Lr g m)(hn:(lm.map (·.1)).Nodup){k:Int}(B:1<=k/\k<=7):EL k lm=some (.agg #[.func (.func (Ha k)) #[] #[],.func (.func (GZ k)) #[] (IX g m k).toArray]):=by
 obtain h9|h9|h9|h9|h9|h9|h9:k=1\/k=2\/k=3\/k=4\/k=5\/k=6\/k=7:=by omega
 all_goals subst h9
 all_goals exact Yy h hn (by simp [Lr,Ha,GZ,IX])
theorem SV{k:Int}(g:1<=k/\k<=7):∀(args:AM) (w:A4),(callFunc (GZ k) args).run prog w= .ok (.enter (GZ k) args) w:=by
 obtain h|h|h|h|h|h|h:k=1\/k=2\/k=3\/k=4\/k=5\/k=6\/k=7:=by omega
 all_goals (subst h;simp only [GZ];first|exact call201|exact call203|exact call205|exact call251|exact call212)
theorem I6{P:Program}{f:FuncId}{args:AM}{H H1:Hp}{Q B:A2->Hp->Prop}(h:BQ P f args H Q)(F:Hp)(K:H1.flatten.Perm (H++F).flatten)(O:∀v H',Q v H'->∃g E,B v g/\(H'.flatten++F.flatten).Perm (g.flatten++E)):BQ P f args H1 B:=fun u R w U=>
 Calls.mono (h u (F++R) w (U.perm (by rw [HR,<-DG,HR (L₁:=H++F)];exact K.append_right _))) fun e W J=>by
  rcases J with⟨v,H',rfl,m,h2⟩|⟨ch,H',rfl,m,h2⟩
  · obtain ⟨g,E,G,I⟩:=O v H' m
    refine .inl ⟨v,g,V,G,h2.sub ⟨E,?_⟩⟩;rw [HR,HR,HR,<-DG];refine (I.append_right _).trans ?_;rw [DG,DG];exact OS.append_left _
  · exact m.elim
def MIn(q:QM)(c:Chg):Prop:=(-1000000000<=mQ q (bfQ q c)/\mQ q (bfQ q c)<=1000000000)/\-1000000000<=mQ q (afQ q c)/\mQ q (afQ q c)<=1000000000
variable{q:QM}{b:Bool}{x:AU}
theorem zK(h:b=true->x.ok):-1000000000<=mQ q (Ia q b x)/\mQ q (Ia q b x)<=1000000000:=by
 unfold Ia;split
 · rename_i h9
   rw [Gk]at h9;exact WQ (h h9.1) q.bq
 · exact ⟨by show(-1000000000:Int)<=0;decide,by show(0:Int)<=1000000000;decide⟩
variable{c:Chg}
theorem oc(q:QM)(h:c.ok):MIn q c:=by
 obtain ⟨_,h2,_⟩:=h;refine ⟨zK fun g=>?_,zK fun g=>?_⟩
 · rw [PD g]at h2
   exact Kf.1 fun m=>h2 (.inl ⟨g,m⟩)
 · rw [Kq g]at h2
   exact Kf.1 fun m=>h2 (.inr ⟨g,m⟩)
theorem TA(q:QM)(c:Chg)(hq:BG q)(hm:MIn q c){K O:B8}{s1 s2:List A8}(ax:Ib K (bfQ q c) s1)(U:Ib O (afQ q c) s2)(g m:Nat)(r:C8)(Z:B8)(W:Nat)(G:List A8)(X:BX 5 61 (.slice Z r.rows.length W) r.rows.length (Ad r.rows) G)(hn:r.rows.length<=100000000)(hv:-4000000000000000000<=r.val/\r.val<=4000000000000000000):
 BQ prog (GZ q.kd) (.agg (q.HH c K O (mQ q (bfQ q c)) (mQ q (afQ q c))):: .agg #[.slice Z r.rows.length W,I0 r.val,.bool r.fnd]::IX g m q.kd).toArray [G,s2,[(g,.cells #[.func (.func 208) #[] #[]] 223 (0,0))],[(m,.cells #[.func (.func 210) #[] #[]] 223 (0,0))]] (fun w H'=>∃B J,w= .tuple #[.agg #[B,I0 (CB q c r).1.val,.bool (CB q c r).1.fnd],.bool (CB q c r).2]/\BX 5 61 B (CB q c r).1.rows.length (Ad (CB q c r).1.rows) J/\H'=[J]):=by
 have e1:=ax.some_;have e2:=U.some_
 have af:=hq.2.1;have hk:q.kd=1\/q.kd=2\/q.kd=3\/q.kd=4\/q.kd=5\/q.kd=6\/q.kd=7:=by have:=hq.2.2.2;omega
 have I:(q.kd=1\/q.kd=2)->CB q c r=(⟨EC q c r.rows,r.val,r.fnd⟩,true):=fun h=>by unfold CB;rw [B0 h]
 have P1:=dI q c K O (mQ q (bfQ q c)) (mQ q (afQ q c)) af X hn U;have P7:=dO q af c K O e1 U X hn
 have P3:=YU q c K O (mQ q (bfQ q c)) (mQ q (afQ q c)) Z r.rows.length W hv;have P4:=kN q c K O (mQ q (bfQ q c)) (mQ q (afQ q c)) Z r.rows.length W hv hm
 have P5:=VL q c K O (mQ q (bfQ q c)) (mQ q (afQ q c)) r Z r.rows.length W g 208 (fun a b=>decide (a<b)) call208 tK;have P6:=VL q c K O (mQ q (bfQ q c)) (mQ q (afQ q c)) r Z r.rows.length W m 210 (fun a b=>decide (b<a)) call210 tN
 rw [e2]at P3;rw [e1,e2]at P5 P6;rcases hk with h|h|h|h|h|h|h
 · rw [show GZ q.kd=201 by rw [h];rfl,show IX g m q.kd=[] by rw [h];rfl,I (.inl h)]
   refine I6 P1 [[(g,.cells #[.func (.func 208) #[] #[]] 223 (0,0))],[(m,.cells #[.func (.func 210) #[] #[]] 223 (0,0))]] B6 ?_;rintro w H' ⟨B,J,rfl,h3,rfl⟩;exact ⟨[J],_,⟨B,J,V,h3,V⟩,by simp;exact .refl _⟩
 · rw [show GZ q.kd=201 by rw [h];rfl,show IX g m q.kd=[] by rw [h];rfl,I (.inr h)]
   refine I6 P1 [[(g,.cells #[.func (.func 208) #[] #[]] 223 (0,0))],[(m,.cells #[.func (.func 210) #[] #[]] 223 (0,0))]] B6 ?_;rintro w H' ⟨B,J,rfl,h3,rfl⟩;exact ⟨[J],_,⟨B,J,V,h3,V⟩,by simp;exact .refl _⟩
 · rw [show GZ q.kd=203 by rw [h];rfl,show IX g m q.kd=[] by rw [h];rfl,show CB q c r=(⟨r.rows,if(afQ q c).isSome then r.val+1 else r.val -1,r.fnd⟩,true) by unfold CB;rw [As A0,B0 h]]
   refine I6 P3 [G,s2,[(g,.cells #[.func (.func 208) #[] #[]] 223 (0,0))],[(m,.cells #[.func (.func 210) #[] #[]] 223 (0,0))]] B6 ?_;rintro w H' ⟨rfl,rfl⟩;exact ⟨[G],_,⟨_,G,V,X,V⟩,by simp;exact .refl _⟩
 · rw [show GZ q.kd=205 by rw [h];rfl,show IX g m q.kd=[] by rw [h];rfl,show CB q c r=(⟨r.rows,r.val+(mQ q (afQ q c) -mQ q (bfQ q c)),r.fnd⟩,true) by unfold CB;rw [As A0,As A0,B0 h]]
   refine I6 P4 [G,s2,[(g,.cells #[.func (.func 208) #[] #[]] 223 (0,0))],[(m,.cells #[.func (.func 210) #[] #[]] 223 (0,0))]] B6 ?_;rintro w H' ⟨rfl,rfl⟩;exact ⟨[G],_,⟨_,G,V,X,V⟩,by simp;exact .refl _⟩
 · have e9:CB q c r=Ke (fun a b=>decide (a<b)) (bfQ q c).isSome (afQ q c).isSome (mQ q (bfQ q c)) (mQ q (afQ q c)) r:=by unfold CB;rw [As A0,As A0,As A0,B0 h]
   have e8:(CB q c r).1.rows=r.rows:=by rw [e9,Me]
   rw [show GZ q.kd=251 by rw [h];rfl,show IX g m q.kd=[I1 g] by rw [h];rfl];rw [<-e9]at P5;refine I6 P5 [G,s2,[(m,.cells #[.func (.func 210) #[] #[]] 223 (0,0))]] (by simp;rw [<-DG,<-DG];exact T5) ?_;rintro w H' ⟨rfl,rfl⟩;exact ⟨[G],[(g,_)]++s2++_,⟨_,G,rfl,by rw [e8];exact X,rfl⟩,by simp;exact T5.symm⟩
 · have e9:CB q c r=Ke (fun a b=>decide (b<a)) (bfQ q c).isSome (afQ q c).isSome (mQ q (bfQ q c)) (mQ q (afQ q c)) r:=by unfold CB;rw [As A0,As A0,As A0,As A0,B0 h]
   have e8:(CB q c r).1.rows=r.rows:=by rw [e9,Me]
   rw [show GZ q.kd=251 by rw [h];rfl,show IX g m q.kd=[I1 m] by rw [h];rfl];rw [<-e9]at P6;refine I6 P6 [G,s2,[(g,.cells #[.func (.func 208) #[] #[]] 223 (0,0))]] (by simp;rw [<-DG,<-DG];exact ((List.Perm.swap _ _ []).append_left _).trans T5) ?_;rintro w H' ⟨rfl,rfl⟩;exact ⟨[G],[(m,_)]++s2++_,⟨_,G,rfl,by rw [e8];exact X,rfl⟩,by simp;exact T5.symm⟩
 · rw [show GZ q.kd=212 by rw [h];rfl,show IX g m q.kd=[] by rw [h];rfl,show CB q c r=D8 q c r by unfold CB;rw [As A0,As A0,As A0,As A0,As A0]]
   refine I6 P7 [[(g,.cells #[.func (.func 208) #[] #[]] 223 (0,0))],[(m,.cells #[.func (.func 210) #[] #[]] 223 (0,0))]] B6 ?_;rintro w H' ⟨B,J,rfl,h3,rfl⟩;exact ⟨[J],_,⟨B,J,V,h3,V⟩,by simp;exact .refl _⟩
def Dj(q:QM)(c:Chg):Bool:=decide c.ok&&Cr q c
def DX(q:QM)(c:Chg)(r:C8):C8×Bool:=if Dj q c then(if(CB q c r).2 then((CB q c r).1,true)else(C8.none,false))else(r,true)
def Ho(q:QM)(r:C8):List Chg->Option C8
 |[]=>some r
 |c::cs=>if(DX q c r).2 then Ho q (DX q c r).1 cs else none
theorem Rs(q:QM):∀(a:List Chg) (r:C8) (b:List Chg),Ho q r (a++b)=(Ho q r a).bind fun g=>Ho q g b
 |[],_,_=>rfl
 |c::a,r,b=>by
  show(if(DX q c r).2 then Ho q (DX q c r).1 (a++b)else none)=(if(DX q c r).2 then Ho q (DX q c r).1 a else none).bind fun g=>Ho q g b;split;· exact Rs q a _ b
  · rfl
def Be(q:QM)(r:C8)(cs:List Chg):C8×Bool×Bool:=match Ho q r cs with
 |some r'=>(r',cs.any (Dj q),true)
 |none=>(C8.none,true,false)
theorem jl(q:QM)(c:Chg)(r:C8):(DX q c r).1.rows.length<=r.rows.length+2:=by
 have h:=dX q c r;unfold DX;split
 · split
   · exact h
   · exact C7 _
 · exact gh _ _
variable{r:C8}
theorem dW(g:MIn q c){B:Int}(h:-B<=r.val/\r.val<=B)(h0:0<=B):-(B+2000000000)<=(CB q c r).1.val/\(CB q c r).1.val<=B+2000000000:=by
 obtain ⟨⟨m,h2⟩,G,I⟩:=g;have hx:∀lt b a,-(B+2000000000)<=(Ke lt b a (mQ q (bfQ q c)) (mQ q (afQ q c)) r).1.val/\(Ke lt b a (mQ q (bfQ q c)) (mQ q (afQ q c)) r).1.val<=B+2000000000:=fun lt b a=>by
  unfold Ke;split;· constructor<;>(simp only;omega)
  · split
    · simp only
      split<;>(constructor<;>omega)
    · constructor<;>(simp only;omega)
 unfold CB;split;· constructor<;>(simp only;omega)
 · split
   · simp only
     split<;>(constructor<;>omega)
   · split
     · constructor<;>(simp only;omega)
     · split
       · exact hx _ _ _
       · split
         · exact hx _ _ _
         · rw [dY];constructor<;>omega
theorem jk{B:Int}(h:-B<=r.val/\r.val<=B)(h0:0<=B):-(B+2000000000)<=(DX q c r).1.val/\(DX q c r).1.val<=B+2000000000:=by
 unfold DX;split
 · rename_i h9
   unfold Dj at h9;rw [Gk]at h9;split;· exact dW (oc q (IF h9.1)) h h0
   · constructor<;>(simp only [C8.none];omega)
 · constructor<;>(simp only;omega)
variable{cs:List Chg}{k:Nat}
theorem PX{g:C8}{x:Chg}(h:Ho q r (cs.take k)=some g)(hx:cs[k]?=some x):Ho q r (cs.take (k+1))=if(DX q x g).2 then some (DX q x g).1 else none:=by
 rw [Bq hx,Rs,h];show Ho q g [x]=_
 unfold Ho Ho;rfl
theorem Ux(h:Ho q r (cs.take k)=none):Ho q r cs=none:=by
 rw [<-MA k cs,Rs,h];rfl
theorem Vx{x:Chg}(f:Chg->Bool)(hx:cs[k]?=some x):(cs.take (k+1)).any f=((cs.take k).any f||f x):=by
 rw [Bq hx,List.any_append,oE,oT,gx]
theorem WZ{q:QM}:∀(cs:List Chg) (r r':C8) (B:Int) (n:Nat),Ho q r cs=some r'->(-B<=r.val/\r.val<=B)->0<=B->r.rows.length<=n->(-(B+2000000000*(cs.length:Int))<=r'.val/\r'.val<=B+2000000000*(cs.length:Int))/\r'.rows.length<=n+2*cs.length
 |[],r,r',B,n,h,h1,h2,h3=>by
  unfold Ho at h;injection h with h
  subst h;simp only [Mp];exact ⟨⟨by omega,by omega⟩,h3⟩
 |c::cs,r,r',B,n,h,h1,h2,h3=>by
  unfold Ho at h;split at h
  · have g:=jk (q:=q) (c:=c) h1 h2
    have G:=jl q c r;have m:=WZ cs _ r' (B+2000000000) (n+2) h g A0 A0
    rw [EV];obtain ⟨⟨I,J⟩,K⟩:=m;refine ⟨⟨?_,?_⟩,by omega⟩<;>(push_cast;omega)
  · cases h
variable{rv:A2}{A:List A8}
set_option maxHeartbeats 1000000 in
theorem dU(q:QM)(m:BG q)(c:Chg)(hr:DV A rv r.rows)(hn:r.rows.length<=100000000)(hv:-4000000000000000000<=r.val/\r.val<=4000000000000000000):BQ prog 99 #[.agg q.A89,.agg #[rv,I0 r.val,.bool r.fnd],.agg c.A87] [A] (fun w H'=>∃ax s',w= .tuple #[.agg #[ax,I0 (DX q c r).1.val,.bool (DX q c r).1.fnd],.bool (DX q c r).2]/\BX 5 61 ax (DX q c r).1.rows.length (Ad (DX q c r).1.rows) s'/\H'=[s',A]):=by
 have d9:=mL;obtain ⟨pv,cv,rfl,_⟩:=id hr;refine Se func99 ntmps99 [0,1,2] ?_;intro u R;refine A3<|Ze (Bx q.A89)<|AF fun bq=>Ze (Bx #[.slice pv r.rows.length cv,I0 r.val,.bool r.fnd])<|AF fun br=>Ze (Bx c.A87)<|AF fun bc=>Ze (Al HP #[_,_,_])<|AF fun bo=>AH Y<|A3<|Zh 0 E4 V rfl DH Y<|Zl GS Y<|Zc [_] Y call97 Y V (Gi hr A0) ?_;rintro _ _ ⟨_,⟨s1,h1,rfl⟩,rfl⟩;obtain ⟨g1,c1,rfl⟩:=h1.form;refine Zh 0 E4 V rfl DH Y<|Xe (Zs DH Y Y V (hi:=by(simp;done)))<|A5<|Zq<|A3<|Zo Wh (AA (cs:=#[_,_,_,_,_,_,_]) FG D4 Y B9 B2)<|Zo Wh (AA (cs:=#[_,_,_,_,_,_,_,_,_,_]) HG Cd Y B9 B2)<|Xr [_,_] Y call98 Y V (KR q c) ?_;rw [show(decide (BG q)&&(decide c.ok&&Cr q c))=Dj q c by rw [DO m];rfl];refine Zv (Bh Y)<|Z0<|Zn [3,4,5,6,17] ?_;refine Zx<|AY Y (fun ht=>?_) (fun ht=>?_);·
  have g:Dj q c=false:=by simpa using ht
  refine A3<|Zo Wh (AA (cs:=#[_,_,_]) E3 C3 Y B9 B2)<|Xe (Xw C3 _)<|Ax Y<|Zt<|CP V results99 Y Wh (Av E3 C3 Wn (V)) Y (by
   have U:DX q c r=(r,true):=by unfold DX;rw [g];rfl
   exact ⟨.slice g1 r.rows.length c1,s1,by rw [U];rfl,by rw [U];exact h1,rfl⟩)
 have g:Dj q c=true:=by simpa using ht
 have af:c.ok:=by unfold Dj at g;rw [Gk]at g;exact IF g.1
 refine B4<|Zb [3,4,5,6] ?_;refine Ch (e0:=[(3,_),(4,_),(5,_)]) (H0:=[s1]) (fun e H=>∃(J:Nat) (I:B8) (G:Nat) (W:List A8),(BX 5 61 (.slice I (CB q c r).1.rows.length G) (CB q c r).1.rows.length (Ad (CB q c r).1.rows) W)/\e=[(8,I1 J),(9,.bool (CB q c r).2)]/\H=[[(J,.cells #[.slice I (CB q c r).1.rows.length G,I0 (CB q c r).1.val,.bool (CB q c r).1.fnd] 50 (0,0))],W]) Wp ?hx_2 ?hy_2
 case hx_2=>
  refine Aw (n:=16) (0::0::2::7::15::0::0::97::0::511::1023::2047::2047::0::12287::32767::[]) 25217 AD AD V<|A1 1 V (AB (off:=0) DB V rfl A6 Y)<|Bk 2 V AE Y<|GB 5 V Wh (AA (cs:=#[_,_,_,_,_,_,_]) FG D4 Y B9 B2)<|GB 6 V Wh (AA (cs:=#[_,_,_,_,_,_,_,_,_,_]) HG Cd Y B9 B2)<|GB 8 V Wh (AA (cs:=#[_,_,_]) E3 C3 Y B9 B2)<|Zz (l:=[0,13])<|C0 [true,true,true,true] [(8,(_,_)),(6,(_,_)),(5,(_,_)),(2,(_,_))] V rfl (Zw [] Y call150 Y V (Na)) ?hk_3 Bz ?hl_3
  case' hk_3=>
   rintro _ _ ⟨_,⟨mb,es,ck,lm,b5,b6,rfl,hm,hp,rfl⟩,rfl⟩;refine ⟨Zk (Zk (Zk (Zk (Ac)))),?_⟩;have B:=Vh hp hm.keys m.kind
   refine GB 3 rfl Wh (De Hy al aw hm (fun _ _=>trivial) (trivial) ((by rw [B];exact rfl:_=Value.agg #[.func (.func (Ha q.kd)) #[] #[],.func (.func (GZ q.kd)) #[] (IX b5 b6 q.kd).toArray])) Y Y)<|A1 4 rfl (X4 ab rfl isAgg252 Y rfl)<|Zz (l:=[7,13])<|C0 [true,true,false,false,true] [(3,(_,_)),(8,(_,_)),(2,(_,_))] rfl rfl (Zw [_,_] Y call151 Y rfl (Jc q m.2.1 (by have:=m.2.2.2;omega) c)) ?hk_4 Bz ?hl_4
   case' hk_4=>
    rintro _ _ ⟨_,⟨p1,p2,bn,cu,rfl,K,O,rfl⟩,rfl⟩;refine CA<|Zz (l:=[9,13])<|C0 [false,false,false] [] V rfl (Zw [_,_] Y (SV m.kind) Y V (TA q c m (oc q af) K O b5 b6 r g1 c1 s1 h1 hn hv)) ?hk_5 Bz ?hl_5
    case' hk_5=>
     rintro _ _ ⟨_,⟨cO,W,rfl,X,rfl⟩,rfl⟩;refine ⟨Ac,?_⟩;obtain ⟨I,G,rfl⟩:=X.form;refine A1 10 V (AQ Y)<|A1 11 V (CV Y V)<|A1 12 V (CV Y V)<|Zz (l:=[13])<|C0 [] [] V rfl (Al HP #[_,_,_]) ?_ (fun _ _ h=>h.elim) Am;rintro _ _ ⟨J,rfl,rfl⟩;refine CA<|Yw 14 32767 V (Xw C3 #[.slice I (CB q c r).1.rows.length G,I0 (CB q c r).1.val,.bool (CB q c r).1.fnd])<|F1<|A1 15 V (BI Y)<|Ao<|Hx (by exact ⟨J,I,G,W,X,V,V⟩)
    case' hl_5=>
     refine C0 [true,true,true] [(3,(_,_)),(8,(_,_)),(2,(_,_))] V rfl (Al HP #[_,_,_]) ?hk_9 (fun _ _ h=>h.elim) ?hl_9
     case' hk_9=>
      rintro _ _ ⟨J,rfl,rfl⟩
     case' hl_9=>
      exact Am
   case' hl_4=>
    refine C0 [true,true,true,true,true] [(3,(_,_)),(8,(_,_)),(6,(_,_)),(5,(_,_)),(2,(_,_))] V rfl (Al HP #[_,_,_]) ?hk_13 (fun _ _ h=>h.elim) ?hl_13
    case' hk_13=>
     rintro _ _ ⟨J,rfl,rfl⟩;refine CA<|Zz (l:=[7])<|C0 [true,true,false,false,true] [(3,(_,_)),(8,(_,_)),(2,(_,_))] V rfl (Zw [_,_] Y call151 Y V (Jc q m.2.1 (by have:=m.2.2.2;omega) c)) ?hk_14 Bz ?hl_14
     case' hk_14=>
      rintro _ _ ⟨_,⟨p1,p2,bn,cu,rfl,K,O,rfl⟩,rfl⟩
     case' hl_14=>
      exact Am
    case' hl_13=>
     exact Am
  case' hl_3=>
   refine C0 [true,true,true,true] [(8,(_,_)),(6,(_,_)),(5,(_,_)),(2,(_,_))] V rfl (Al HP #[_,_,_]) ?hk_18 (fun _ _ h=>h.elim) ?hl_18
   case' hk_18=>
    rintro _ _ ⟨J,rfl,rfl⟩;refine CA<|Zz (l:=[0])<|C0 [true,true,true,true] [(8,(_,_)),(6,(_,_)),(5,(_,_)),(2,(_,_))] V rfl (Zw [] Y call150 Y V (Na)) ?hk_19 Bz ?hl_19
    case' hk_19=>
     rintro _ _ ⟨_,⟨mb,es,ck,lm,b5,b6,rfl,hm,hp,rfl⟩,rfl⟩;refine ⟨Zk (Zk (Zk (Zk (Ac)))),?_⟩;have B:=Vh hp hm.keys m.kind
     refine GB 3 rfl Wh (De Hy al aw hm (fun _ _=>trivial) (trivial) ((by rw [B];exact rfl:_=Value.agg #[.func (.func (Ha q.kd)) #[] #[],.func (.func (GZ q.kd)) #[] (IX b5 b6 q.kd).toArray])) Y Y)<|A1 4 rfl (X4 ab rfl isAgg252 Y rfl)<|Zz (l:=[7])<|C0 [true,true,false,false,true] [(3,(_,_)),(8,(_,_)),(2,(_,_))] rfl rfl (Zw [_,_] Y call151 Y rfl (Jc q m.2.1 (by have:=m.2.2.2;omega) c)) ?hk_20 Bz ?hl_20
     case' hk_20=>
      rintro _ _ ⟨_,⟨p1,p2,bn,cu,rfl,K,O,rfl⟩,rfl⟩
     case' hl_20=>
      exact Am
    case' hl_19=>
     exact Am
   case' hl_18=>
    exact Am
  all_goals
   refine CA<|Zz (l:=[9])<|C0 [false,false,false] [] V rfl (Zw [_,_] Y (SV m.kind) Y V (TA q c m (oc q af) K O b5 b6 r g1 c1 s1 h1 hn hv)) ?_ Bz Am;rintro _ _ ⟨_,⟨cO,W,rfl,X,rfl⟩,rfl⟩;refine ⟨Ac,?_⟩;obtain ⟨I,G,rfl⟩:=X.form;refine A1 10 V (AQ Y)<|A1 11 V (CV Y V)<|A1 12 V (CV Y V)<|Zz (l:=[14])<|C0 [] [] V rfl (Xw C3 #[.slice I (CB q c r).1.rows.length G,I0 (CB q c r).1.val,.bool (CB q c r).1.fnd]) ?_ (fun _ _ h=>h.elim) Am;rintro _ _ ⟨rfl,rfl⟩;refine CA<|A1 15 V (BI Y)<|Ao<|Hx (by exact ⟨J,I,G,W,X,V,V⟩)
 rintro _ _ ⟨J,I,G,W,X,rfl,rfl⟩;refine B7 Y<|Zv (Bh Y)<|A5<|AY Y (fun hk=>?_) (fun hk=>?_);·
  have Z:(CB q c r).2=false:=by simpa using hk
  refine Zq<|Bc<|Zg<|Zv (BM (vs:=[]) (cs:=#[_,_,_]) Y (Aa (pl:=#[(0,1),(1,1),(2,1)]) HP E4 (fun _=>by kernel_rfl) V))<|Xe (Xw C3 _)<|Ax Y<|Zt<|CP V results99 Y Wh (Av E3 C3 Wn (V)) Y (by
   have U:DX q c r=(C8.none,false):=by unfold DX;rw [g,B0 rfl,Z];rfl
   exact ⟨.slice none 0 0,[],by rw [U];rfl,by rw [U];exact Bi 5 _,rfl⟩)
 have Z:(CB q c r).2=true:=by simpa using hk
 refine AC<|CD<|Zo Wh (AA (cs:=#[_,_,_]) E3 C3 Y B9 B2)<|Xe (Xw C3 _)<|Ax Y<|CP V results99 Y Wh (Av E3 C3 Wn (V)) Y (by
  have U:DX q c r=((CB q c r).1,true):=by unfold DX;rw [g,B0 rfl,Z];rfl
  exact ⟨.slice I _ G,W,by rw [U];rfl,by rw [U];exact X,rfl⟩)
set_option maxHeartbeats 1000000 in
theorem JF(q:QM)(hq:BG q)(p:Int)(qa:B8)(cap:Nat)(cs:List Chg){MC:List A8}(hC:CE MC (.slice qa cs.length cap) cs)(j5:cs.length<=1000)(hr:DV A rv r.rows)(hn:r.rows.length<=10000000)(hv:-2000000000000000000<=r.val/\r.val<=2000000000000000000):BQ prog 49 #[.agg q.A89,.agg #[rv,I0 r.val,.bool r.fnd],.agg #[I0 p,.slice qa cs.length cap]] [A,MC] (fun w H'=>∃Z s',w= .tuple #[.agg #[Z,I0 (Be q r cs).1.val,.bool (Be q r cs).1.fnd],.bool (Be q r cs).2.1,.bool (Be q r cs).2.2]/\BX 5 61 Z (Be q r cs).1.rows.length (Ad (Be q r cs).1.rows) s'/\H'=[s',A,MC]):=by
 have l5:=mL;obtain ⟨pv,cv,rfl,_⟩:=id hr;obtain ⟨pc,gy,gm,kv,ax⟩:=id hC;injection gm with hv1 hv2 hv3
 subst hv1 hv3;refine Se func49 ntmps49 [0,1,2] ?_;intro u R;refine A3<|Ze (Bx q.A89)<|AF fun bq=>Ze (Bx #[.slice pv r.rows.length cv,I0 r.val,.bool r.fnd])<|AF fun br=>Ze (Bx #[I0 p,.slice qa cs.length cap])<|AF fun bc=>Ze (Al HP #[_,_,_])<|AF fun bo=>Za Y<|AH Y<|A3<|AH Y<|A3<|Zh 0 E4 V rfl DH Y<|Zl GS Y<|Zc [_] Y call97 Y V (Gi hr A0) ?_;rintro _ _ ⟨_,⟨s1,h1,rfl⟩,rfl⟩;obtain ⟨g1,c1,rfl⟩:=h1.form;refine Zh 0 E4 V rfl DH Y<|Xe (Zs DH Y Y V (hi:=by(simp;done)))<|A5<|Zq<|A3<|Zh 1 GF V rfl KB Y<|Zl LL Y<|Zv (AR GO Y)<|Zm Y<|Z0<|Zn [3,4,6,9,18,19,20] ?_;refine Zx<|AP<|Zb [9,20,3,4,6,18,19] ?_;refine Ay (e0:=[(9,_),(20,_)]) (fun m e H=>∃(k:Nat) (g:C8) (gk:B8) (ck:Nat) (sk:List A8),m=cs.length -k/\(k<=cs.length/\Ho q r (cs.take k)=some g/\BX 5 61 (.slice gk g.rows.length ck) g.rows.length (Ad g.rows) sk)/\e=[(9,.bool ((cs.take k).any (Dj q))),(20,I0 (k:Int))]/\H=[[(br,.cells #[.slice gk g.rows.length ck,I0 g.val,.bool g.fnd] 50 (0,0))],sk]) (by exact ⟨0,r,g1,c1,s1,rfl,⟨C7 _,by rw [MT];rfl,h1⟩,rfl,rfl⟩) Wp ?_;rintro _ _ _ ⟨k,g,gk,ck,sk,rfl,⟨hk,B,X⟩,rfl,rfl⟩;obtain ⟨cO,cu⟩:=WZ (cs.take k) r g 2000000000000000000 10000000 B hv A0 hn;have bn:(cs.take k).length=k:=by rw [Cl];omega
 rw [bn]at cO cu;have af:=Db X A0
 refine A3<|Zv (Ar Y Y)<|A5<|Zq<|Ap Y (fun W=>?_) (fun W=>?_);·
  obtain ⟨y,hy⟩:∃y,cs[k]?=some y:=⟨_,BE W⟩;obtain ⟨g2,j3,K,T2,gq,rfl,d9,ic,U⟩:=ax k y hy;refine B4<|Zq<|AP<|A3<|Ba (AZ GO Cd Y Y A0)<|CO (cs:=[(g2,.cells K T2 gq)]) (by simp [d9]) (AA (cs:=y.A87) HG Cd Y A0 U) V rfl<|Ze (Al OK #[_,_,_,_,_,_,_,_,_,_])<|AF fun bx=>Xe (Xw Cd y.A87)<|A5<|AN Y<|Zm Y<|Ab (t:=25) Y V (fun G=>?_) (fun G=>?_);focus
   have e9:(cs.take (k+1)).any (Dj q)=true:=by rw [Vx _ hy,G];rfl
   refine AG<|C5<|Zv (AL Y Y) ?_
  rotate_left
  focus
   have e9:(cs.take (k+1)).any (Dj q)=Dj q y:=by rw [Vx _ hy,G];rfl
   refine DY Y Wh (AA (cs:=#[_,_,_,_,_,_,_]) FG D4 Y B9 B2) V rfl<|DY Y Wh (AA (cs:=#[_,_,_,_,_,_,_,_,_,_]) HG Cd Y B9 B2) V rfl<|Xr [_,_] Y call98 Y V (KR q y) ?_;rw [show(decide (BG q)&&(decide y.ok&&Cr q y))=Dj q y by rw [DO hq];rfl];refine Zv (AO Y Y) ?_
  all_goals
   refine AH Y<|A3<|B1 Y<|Zn [3,4,6,9,11,18,19,20] ?_;refine CD<|Zo Wh (AA (cs:=#[_,_,_,_,_,_,_]) FG D4 Y B9 B2)<|Zo Wh (AA (cs:=#[_,_,_]) E3 C3 Y B9 B2)<|Zo Wh (AA (cs:=#[_,_,_,_,_,_,_,_,_,_]) HG Cd Y B9 B2)<|Zc [_,_,_] Y call99 Y V (dU q hq y af A0 A0) ?_;rintro _ _ ⟨_,⟨l8,s3,rfl,h3,rfl⟩,rfl⟩;obtain ⟨g3,c3,rfl⟩:=h3.form;refine Zm Y<|Zd Y rfl<|Zd Y rfl<|Xe (BF C3 Y Y HT Wu (by exact (rfl:_=(#[.slice g3 (DX q y g).1.rows.length c3,I0 (DX q y g).1.val,.bool (DX q y g).1.fnd]:AM))) Fm B9 (by exact BA _))<|AH Y<|AN Y<|Zv (Bh Y)<|A5<|AY Y (fun J=>?_) (fun J=>?_);·
    have I:(DX q y g).2=false:=by simpa using J
    have O:Be q r cs=(C8.none,true,false):=by unfold Be;rw [Ux (k:=k+1) (by rw [PX B hy,I];rfl)]
    refine Zq<|Bc<|Zg<|Zv (BM (vs:=[]) (cs:=#[_,_,_]) Y (Aa (pl:=#[(0,1),(1,1),(2,1)]) HP E4 (fun _=>by kernel_rfl) V))<|Xe (Xw C3 _)<|Za Y<|B1 Y<|Zn [6,7,8] ?_;refine Zx<|AJ<|Ag<|Zt<|Zt<|Ag<|Zt<|MW rfl results49 Y Wh (Av E3 C3 Wn (rfl)) Y Y (by exact ⟨.slice none 0 0,[],by rw [O];rfl,by rw [O];exact Bi 5 _,rfl⟩)
   have I:(DX q y g).2=true:=by simpa using J
   refine AC<|A9<|Zx<|E6 Y Y Y<|DM (e:=[(9,_),(20,_)]) (h:=by exact ⟨k+1,(DX q y g).1,g3,c3,s3,rfl,⟨by omega,by rw [PX B hy,B0 I],h3⟩,by rw [e9],rfl⟩)
 have ek:k=cs.length:=by omega
 subst ek;rw [HI]at B⊢;have O:Be q r cs=(g,cs.any (Dj q),true):=by unfold Be;rw [B]
 refine BB<|Zt<|Zt<|AV<|CD<|Zo Wh (AA (cs:=#[_,_,_]) E3 C3 Y B9 B2)<|Zm Y<|Xe (Xw C3 _)<|Za Y<|Ax Y<|MW rfl results49 Y Wh (Av E3 C3 Wn (rfl)) Y Y (by exact ⟨.slice gk _ ck,sk,by rw [O];rfl,by rw [O];exact X,rfl⟩)
variable{rs:List AU}
theorem OD(g:BN rs):rs.Nodup:=g.imp (by
 intro a b h e;subst e;unfold AU.lt2 at h;omega)
theorem OJ(g:BG q)(rs:List AU)(x:AU):x∈CR rs q↔x∈rs/\inQ q x=true:=by rw [(Hm g rs).mem_iff,GP]
theorem Rj(g:BG q)(m:BN rs):(CR rs q).Nodup:=(Hm g rs).nodup_iff.2 ((OD m).filter _)
theorem Ri(G:BG q){o:List AU}(g:BN rs)(hn:o.Nodup)(B:∀x,x∈o↔x∈rs/\inQ q x=true)(h2:o.Pairwise (leV q.cl.toNat)):o=CR rs q:=by
 have h:=Hm G rs;refine Rf g (f:=inQ q) (t:=q.tb) (fun r m=>(IF m).1) ?_ h h2 (Es g _ _ _ _);exact (Sh hn ((OD g).filter _)).2 fun x=>by rw [B,GP]
variable{y:AU}
theorem Oc(h:Ia q b x=some y):y=x/\b=true/\inQ q y=true:=by
 unfold Ia at h;split at h
 · rename_i h9
   rw [Gk]at h9;injection h with h
   subst h;exact ⟨V,h9⟩
 · cases h
theorem rU(h:Ia q b x=none)(g:b=true):inQ q x=false:=by
 unfold Ia at h;rw [g,Wa]at h;split at h;· cases h
 · simp_all
theorem RD(g:BG q)(y x:AU):L8 q y x=true↔Dk y q.cl.toNat<Dk x q.cl.toNat\/(Dk x q.cl.toNat=Dk y q.cl.toNat/\y.k<x.k):=by
 have hc:=g.2.1;have e:∀r,Bj r q.cl=Dk r q.cl.toNat:=fun r=>by
  have:=LG r q.cl.toNat A0;rwa [show((q.cl.toNat:Nat):Int)=q.cl by omega]at this
 unfold L8;rw [e,e,TO,Gk,H4,H4,H4]
theorem vm(B:BG q)(h:L8 q y x=false):leV q.cl.toNat x y:=by
 have g:=RD B y x;rw [h]at g;unfold leV;have:¬(Dk y q.cl.toNat<Dk x q.cl.toNat\/(Dk x q.cl.toNat=Dk y q.cl.toNat/\y.k<x.k)):=fun m=>by cases g.2 m
 omega
theorem vn(g:BG q)(h:L8 q y x=true):leV q.cl.toNat y x:=by
 have:=(RD g y x).1 h;unfold leV;omega
theorem Vk(G:BG q){L:List AU}(O:L.Pairwise (leV q.cl.toNat))(y:AU):∃A B,L=A++B/\Qs (L8 q y) L y=A++[y]++B/\(∀x∈A,L8 q y x=false)/\(∀x∈B,L8 q y x=true):=by
 cases h:L.findIdx? (L8 q y)with
 |none=>
  refine ⟨L,[],by simp,?_,eN.1 h,by simp⟩;unfold Qs;rw [h];simp
 |some i=>
  obtain ⟨I,h2,J⟩:=cH.1 h;refine ⟨L.take i,L.drop i,(MA i L).symm,?_,fun x hx=>?_,fun x hx=>?_⟩
  · unfold Qs
    rw [h];rfl
  · obtain ⟨j,g⟩:=HK hx
    rw [HU]at g;split at g
    · rename_i hji
      obtain ⟨U,rfl⟩:=C6.1 g;simpa using J j hji
    · cases g
  · have m:=O.sublist (List.drop_sublist i L)
    rw [RT I]at hx m;rcases Dg.1 hx with rfl|hx
    · exact h2
    · have K:=(S4.1 m).1 x hx
      have W:=(RD G y _).1 h2;rw [RD G];unfold leV at K;omega
theorem ZK(g:AU->Bool)(L:List AU)(y:AU):(Qs g L y).Perm (y::L):=by
 unfold Qs;simp only [DG,PJ];refine T5.trans ?_;rw [MA]
theorem fQ(G:BG q){L:List AU}(g:L.Pairwise (leV q.cl.toNat))(y:AU):(Qs (L8 q y) L y).Pairwise (leV q.cl.toNat):=by
 obtain ⟨A,B,e,e2,O,U⟩:=Vk G g y;rw [e2];rw [e]at g;obtain ⟨J,h2,K⟩:=Rg.1 g;rw [DG];refine Rg.2 ⟨J,S4.2 ⟨fun x hx=>vn G (U x hx),h2⟩,fun a I b m=>?_⟩;rcases Dg.1 m with rfl|m
 · exact vm G (O a I)
 · exact K a I b m
theorem ue(c:Chg)(x:AU):KC c x=true↔x.is c.t c.k:=by
 unfold KC AU.is;rw [Gk,H4,H4]
theorem SS(m:BG q)(g:BN rs)(B:GR rs c):EC q c (CR rs q)=CR (EO rs c) q:=by
 have J:((CR rs q).filter fun x=>!KC c x).Pairwise (leV q.cl.toNat):=(Es g _ _ _ _).sublist Z1;have K:((CR rs q).filter fun x=>!KC c x).Nodup:=(Rj m g).filter _
 have G:∀x,x∈((CR rs q).filter fun x=>!KC c x)↔(x∈rs/\¬x.is c.t c.k)/\inQ q x=true:=fun x=>by
  rw [GP,OJ m,V2,<-r4,ue];constructor;· rintro ⟨⟨a,b⟩,d⟩;exact ⟨⟨a,d⟩,b⟩
  · rintro ⟨⟨a,d⟩,b⟩;exact ⟨⟨a,b⟩,d⟩
 unfold EC;cases ha:afQ q c with
 |none=>
  refine Ri m (J5 g B) K (fun x=>?_) J;rw [G,G9 g B];constructor;· rintro ⟨a,b⟩;exact ⟨.inl a,b⟩
  · rintro ⟨a|⟨a,rfl⟩,b⟩
    · exact ⟨a,b⟩
    · rw [rU ha a]at b;cases b
 |some y=>
  obtain ⟨hy,O,hi⟩:=Oc ha;have I:y∉((CR rs q).filter fun x=>!KC c x):=fun h=>((G y).1 h).1.2 (by rw [hy];exact ⟨rfl,rfl⟩)
  refine Ri m (J5 g B) ((ZK _ _ y).nodup_iff.2 (JT.2 ⟨I,K⟩)) (fun x=>?_) (fQ m J y);rw [(ZK _ _ y).mem_iff,Dg,G,G9 g B];constructor
  · rintro (rfl|⟨a,b⟩)
    · exact ⟨.inr ⟨O,hy⟩,hi⟩
    · exact ⟨.inl a,b⟩
  · rintro ⟨a|⟨a,e⟩,b⟩
    · exact .inr ⟨a,b⟩
    · exact .inl (e.trans hy.symm)
theorem aH(lt:Int->Int->Bool)(G:∀a b c,lt b a=false->lt c b=false->lt c a=false)(m:∀a,lt a a=false)(g:∀a b,lt a b=true->lt b a=false)(B:∀a b,lt a b=false->lt b a=false->a=b){l:List Int}{x:Int}(hx:x∈l)(h:∀y∈l,lt y x=false):EZ lt l=⟨[],x,true⟩:=by
 match l,hx,h with
 |z::l,hx,h=>
  obtain ⟨I,J,K,O⟩:=KH lt G m g z l;rw [O,B x I (K x hx) (h I J)]
theorem uU(lt:Int->Int->Bool)(l:List Int)(n:Int):EZ lt (l++[n])=⟨(EZ lt l).rows,if !(EZ lt l).fnd||lt n (EZ lt l).val then n else(EZ lt l).val,true⟩:=by
 unfold EZ;rw [cQ];rfl
theorem nH(lt:Int->Int->Bool)(G:∀a b c,lt b a=false->lt c b=false->lt c a=false)(g:∀a,lt a a=false)(m:∀a b,lt a b=true->lt b a=false)(B:∀a b,lt a b=false->lt b a=false->a=b)(X:List Int)(b a:Option Int)
 (h:(Ke lt b.isSome a.isSome (b.getD 0) (a.getD 0) (EZ lt (X++b.toList))).2=true):(Ke lt b.isSome a.isSome (b.getD 0) (a.getD 0) (EZ lt (X++b.toList))).1=EZ lt (X++a.toList):=by
 have I:∀r:C8,r=EZ lt X->(if a.isSome then((⟨r.rows,if !r.fnd||lt (a.getD 0) r.val then a.getD 0 else r.val,true⟩:C8),true)else(r,true)).1=EZ lt (X++a.toList):=fun r hr=>by
  subst hr;cases a with
  |none=>simp
  |some n=>rw [qk,uU];rfl
 cases b with
 |none=>
  have e:EZ lt (X++(none:Option Int).toList)=EZ lt X:=by simp
  rw [e]at h⊢;exact I _ V
 |some o=>
  have K:∃x∈X++[o],(∀y∈X++[o],lt y x=false)/\EZ lt (X++[o])=⟨[],x,true⟩:=by
   cases hx:X++[o]with
   |nil=>simp at hx
   |cons z l=>exact KH lt G g m z l
  obtain ⟨x,W,h2,Z⟩:=K;rw [qk]at h⊢;rw [Z]at h⊢;unfold Ke at h⊢;simp only [Option.isSome_some,kk,Wa,TX,oR]at h⊢;cases hxo:lt x o with
  |false=>
   rw [hxo]at h;simp only [eh,J1]at h⊢;have O:=h2 o B6
   have J:=B x o hxo O;subst J;cases a with
   |none=>simp at h
   |some n=>
    simp only [Option.isSome_some,kk,Wa,lE,V2]at h;rw [qk,aH lt G g m B (x:=n) B6 fun y hy=>?_];· rfl
    · rcases CI.1 hy with hy|hy
      · exact G n x y h (h2 y (by simp [hy]))
      · rw [CH.1 hy];exact g n
  |true=>
   simp only [TX,Of,Hi];have U:x∈X:=by
    rcases CI.1 W with h9|h9
    · exact h9
    · rw [CH.1 h9,g]at hxo;cases hxo
   have e:(⟨[],x,true⟩:C8)=EZ lt X:=(aH lt G g m B U fun y hy=>h2 y (by simp [hy])).symm;have:=I _ e
   simpa using this
theorem Og(q:QM)(a b:List AU):Cu q (a++b)=Cu q a++Cu q b:=CN
theorem Yq(q:QM)(o:Option AU):Cu q o.toList=(o.map fun r=>Bj r q.bq).toList:=by cases o<;>rfl
theorem eX(q:QM)(o:Option AU):mQ q o=(o.map fun r=>Bj r q.bq).getD 0:=by cases o<;>rfl
theorem j4(q:QM)(o:Option AU):o.isSome=(o.map fun r=>Bj r q.bq).isSome:=by cases o<;>rfl
theorem wQ(o:Option Int):Jh o.toList=o.getD 0:=by
 cases o with
 |none=>rfl
 |some x=>show x+0=x;omega
theorem YY(K:BG q)(hs:BN rs)(hf:GR rs c)(h7:q.kd≠7)(J:Cr q c=true)(h:(CB q c (Cf rs q)).2=true):(CB q c (Cf rs q)).1=Cf (EO rs c) q:=by
 obtain ⟨A,B,e1,e2⟩:=Pj hf;have f1:rs.filter (inQ q)=A.filter (inQ q)++(bfQ q c).toList++B.filter (inQ q):=by
  conv=>lhs;rw [e1]
  rw [Kd,Kd,Su]
 have f2:(EO rs c).filter (inQ q)=A.filter (inQ q)++(afQ q c).toList++B.filter (inQ q):=by
  rw [e2,Kd,Kd,Sv]
 have p1:=Hm K rs;have p2:=Hm K (EO rs c)
 rw [f1]at p1;rw [f2]at p2;have hk:=K.2.2.2
 have l1:=p1.length_eq;have l2:=p2.length_eq
 simp only [C2]at l1 l2;have m1:(Cu q (CR rs q)).Perm ((Cu q (A.filter (inQ q))++Cu q (B.filter (inQ q)))++((bfQ q c).map fun r=>Bj r q.bq).toList):=by
  rw [<-Yq,<-Og,<-Og];refine (p1.map _).trans (List.Perm.map _ ?_);simp only [DG];exact Sp _ OS
 have m2:(Cu q (CR (EO rs c) q)).Perm ((Cu q (A.filter (inQ q))++Cu q (B.filter (inQ q)))++((afQ q c).map fun r=>Bj r q.bq).toList):=by
  rw [<-Yq,<-Og,<-Og];refine (p2.map _).trans (List.Perm.map _ ?_);simp only [DG];exact Sp _ OS
 have hx:∀lt:Int->Int->Bool,(∀a b c,lt b a=false->lt c b=false->lt c a=false)->(∀a,lt a a=false)->(∀a b,lt a b=true->lt b a=false)->(∀a b,lt a b=false->lt b a=false->a=b)->(Ke lt (bfQ q c).isSome (afQ q c).isSome (mQ q (bfQ q c)) (mQ q (afQ q c)) (EZ lt (Cu q (CR rs q)))).2=true->(Ke lt (bfQ q c).isSome (afQ q c).isSome (mQ q (bfQ q c)) (mQ q (afQ q c)) (EZ lt (Cu q (CR rs q)))).1=EZ lt (Cu q (CR (EO rs c) q)):=fun lt O U W X h9=>by
  rw [Ow lt O U W X (fun y=>m1.mem_iff),eX,eX,j4,j4]at h9⊢;rw [Ow lt O U W X (fun y=>m2.mem_iff)];exact nH lt O U W X _ _ _ h9
 unfold CB Cf FQ at h⊢;unfold Cr at J;rcases (by omega:(q.kd=1\/q.kd=2)\/q.kd=3\/q.kd=4\/q.kd=5\/q.kd=6)with h8|h8|h8|h8|h8
 · have G:¬q.kd=3:=by omega
   have I:¬q.kd=4:=by omega
   have Z:¬q.kd=5:=by omega
   have g6:¬q.kd=6:=by omega
   simp only [B0 h8,G,I,Z,g6,h7,Hi,SS K hs hf]
 · have m:¬(q.kd=1\/q.kd=2):=by omega
   simp only [As m,B0 h8]at J⊢;unfold UO at J;cases hb:bfQ q c<;>cases ha:afQ q c<;>rw [hb,ha]at J<;>rw [hb]at l1<;>rw [ha]at l2<;>simp at J l1 l2⊢<;>omega
 · have m:¬(q.kd=1\/q.kd=2):=by omega
   have G:¬q.kd=3:=by omega
   simp only [As m,G,B0 h8,Hi];have s1:=M6 m1
   have s2:=M6 m2;rw [Xy,wQ,<-eX]at s1 s2;have g:∀l,LK l=Jh l:=fun l=>by unfold LK;rw [Md];omega
   simp only [g];congr 1;omega
 · have m:¬(q.kd=1\/q.kd=2):=by omega
   have G:¬q.kd=3:=by omega
   have I:¬q.kd=4:=by omega
   simp only [As m,G,I,B0 h8,Hi]at h⊢;exact hx _ (fun a b c h1 h2=>by simp only [PB]at*;omega) (fun a=>by simp) (fun a b h=>by simp only [H4,PB]at*;omega) (fun a b h1 h2=>by simp only [PB]at*;omega) h
 · have m:¬(q.kd=1\/q.kd=2):=by omega
   have G:¬q.kd=3:=by omega
   have I:¬q.kd=4:=by omega
   have Z:¬q.kd=5:=by omega
   simp only [As m,G,I,Z,B0 h8,Hi]at h⊢;exact hx _ (fun a b c h1 h2=>by simp only [PB]at*;omega) (fun a=>by simp) (fun a b h=>by simp only [H4,PB]at*;omega) (fun a b h1 h2=>by simp only [PB]at*;omega) h
theorem Fj(m:BN rs)(k:Int)(x:AU):Dc q (IG rs q.ot) k=some x↔x∈rs/\x.is q.ot k:=by
 have J:∀a∈rs,∀b∈rs,a.is q.ot k->b.is q.ot k->a=b:=fun a G b I B h2=>by
  have e1:=KF m G B;have e2:=KF m I h2
  rw [e1]at e2;injection e2
 have g:∀y,y∈IG rs q.ot/\decide (y.t=q.ot/\y.k=k)=true↔y∈rs/\y.is q.ot k:=fun y=>by
  unfold IG inT AU.is;rw [GP,H4,H4];constructor;· rintro ⟨⟨a,_⟩,b⟩;exact ⟨a,b⟩
  · rintro ⟨a,b⟩;exact ⟨⟨a,b.1⟩,b⟩
 unfold Dc;constructor
 · intro h
   exact (g x).1 ⟨mw h,by simpa using o4 (p:=fun x:AU=>decide (x.t=q.ot/\x.k=k)) h⟩
 · intro h
   cases hf:(IG rs q.ot).find? fun x=>decide (x.t=q.ot/\x.k=k)with
   |none=>
    have:=nj.1 hf x ((g x).2 h).1;exact absurd ((g x).2 h).2 this
   |some y=>
    have h2:=(g y).1 ⟨mw hf,by simpa using o4 (p:=fun x:AU=>decide (x.t=q.ot/\x.k=k)) hf⟩;rw [J y h2.1 x h.1 h2.2 h.2]
def prQ(rs:List AU)(q:QM)(r:AU):Option BV:=(Dc q (IG rs q.ot) (Bj r q.bq)).map fun x=>⟨r,x⟩
def rS(rs:List AU)(q:QM):List BV:=(CR rs q).filterMap (prQ rs q)
theorem ZA(rs:List AU)(q:QM):∀l:List AU,Ig q l (IG rs q.ot)=DL (l.filterMap (prQ rs q))
 |[]=>rfl
 |r::l=>by
  have h:=ZA rs q l;unfold Ig at h⊢;rw [IH,h,nb];unfold Ie prQ;cases Dc q (IG rs q.ot) (Bj r q.bq)<;>rfl
theorem di(ps:List BV):F3 (DL ps)=ps:=by
 have G:(DL ps).length=2*ps.length:=IA ps;have g:∀(ps:List BV) (k:Nat) (p:BV),ps[k]?=some p->(DL ps)[2*k]?=some p.l/\(DL ps)[2*k+1]?=some p.r:=by
  intro ps;induction ps with
  |nil=>intro k p h;cases h
  |cons a ps ih=>
   intro k p h;have e:DL (a::ps)=a.l::a.r::DL ps:=rfl
   rw [e];cases k with
   |zero=>injection h with h;subst h;exact ⟨rfl,rfl⟩
   |succ k=>
    have:=ih k p h;rw [show 2*(k+1)=2*k+2 by omega];exact this
 apply O2;intro k;have m:(F3 (DL ps)).length=ps.length:=by rw [K4];omega
 rcases Ft k ps.length with h|h
 · obtain ⟨B,h2⟩:=g ps k _ (BE h)
   unfold F3;rw [FF,cM A0,Pr,Q2,Q2,B,h2,BE h];rfl
 · rw [Nd A0,Nd h]
theorem xJ{α:Type}{a b:Option α}(h:∀x,a=some x↔b=some x):a=b:=Option.ext h
theorem VH{r:AU}{p:BV}(h:prQ rs q r=some p):p.l=r/\Dc q (IG rs q.ot) (Bj r q.bq)=some p.r:=by
 unfold prQ at h;cases hp:Dc q (IG rs q.ot) (Bj r q.bq)with
 |none=>rw [hp]at h;cases h
 |some x=>rw [hp]at h;injection h with h;subst h;exact ⟨rfl,rfl⟩
theorem TS{α β:Type}{f g:α->Option β}:∀{l:List α},(∀x∈l,f x=g x)->l.filterMap f=l.filterMap g
 |[],_=>rfl
 |x::l,h=>by rw [nb,nb,h x B6,TS fun y hy=>h y (by simp [hy])]
theorem NB{α β γ:Type}(f:α->Option β)(g:β->Option γ)(h:α->Option γ)(l:List α)(e:∀x∈l,(f x).bind g=h x):(l.filterMap f).filterMap g=l.filterMap h:=by
 rw [pC];exact TS e
theorem uQ(g:BV->Bool)(A B:List BV)(y:BV)(m:∀x∈A,g x=false)(G:∀x∈B,g x=true):Ol g (A++B) y=A++[y]++B:=by
 have e:((A++B).findIdx? g).getD (A++B).length=A.length:=by
  rw [List.findIdx?_append,eN.2 m];cases B with
  |nil=>simp
  |cons b B=>rw [List.findIdx?_cons,G b B6];simp
 unfold Ol;rw [e];simp
theorem YX(hq:BG q)(K:BN rs)(X:GR rs c)(h7:q.kd=7)(ht:Cr q c=true)(h:(CB q c (Cf rs q)).2=true):(CB q c (Cf rs q)).1=Cf (EO rs c) q:=by
 have j5:=J5 K X;have ic:∀rs,Cf rs q=⟨DL (rS rs q),0,false⟩:=fun rs=>by
  unfold Cf FQ;simp only [show¬q.kd=3 by omega,show¬q.kd=4 by omega,show¬q.kd=5 by omega,show¬q.kd=6 by omega,h7,J1,Hi];rw [ZA];rfl
 have o8:∀r,CB q c r=D8 q c r:=fun r=>by
  unfold CB;simp only [show¬(q.kd=1\/q.kd=2) by omega,show¬q.kd=3 by omega,show¬q.kd=4 by omega,show¬q.kd=5 by omega,show¬q.kd=6 by omega,Hi]
 have ow:Nt q c=true\/c.t=q.ot:=by
  unfold Cr at ht;simp only [show¬(q.kd=1\/q.kd=2) by omega,show¬q.kd=3 by omega,show¬q.kd=4 by omega,show¬(q.kd=5\/q.kd=6) by omega,Hi,TO,H4]at ht;exact ht
 rw [o8,ic]at h⊢;rw [ic];unfold D8 at h⊢;split;· rename_i g;rw [B0 g]at h;cases h
 rename_i hto;rw [As hto]at h;simp only [di]at h⊢;congr 2;have gm:c.t≠q.tb->CR (EO rs c) q=CR rs q:=fun j3=>by
  refine (Ri hq j5 (Rj hq K) (fun x=>?_) (Es K _ _ _ _)).symm;rw [OJ hq,G9 K X];constructor
  · rintro ⟨a,b⟩
    exact ⟨.inl ⟨a,fun g=>j3 (g.1.symm.trans (IF b).1)⟩,b⟩
  · rintro ⟨⟨a,_⟩|⟨a,rfl⟩,b⟩
    · exact ⟨a,b⟩
    · exact absurd (IF b).1 j3
 unfold jnT rS at h⊢;by_cases G:c.t=q.ot
 · rw [B0 G]at h⊢
   rw [gm A0];have U:∀k,Dc q (IG (EO rs c) q.ot) k=if k=c.k then(if c.has then some ⟨c.t,c.k,c.n⟩else none)else Dc q (IG rs q.ot) k:=fun k=>by
    apply xJ;intro x;rw [Fj j5,G9 K X];unfold AU.is;split
    · rename_i m
      split
      · rename_i O
        rw [Option.some_inj];constructor
        · rintro ⟨⟨_,a⟩|⟨_,rfl⟩,b,d⟩
          · exact absurd ⟨b.trans G.symm,d.trans m⟩ a
          · rfl
        · rintro rfl;exact ⟨.inr ⟨O,rfl⟩,G,m.symm⟩
      · rename_i O
        constructor
        · rintro ⟨⟨_,a⟩|⟨a,_⟩,b,d⟩
          · exact absurd ⟨b.trans G.symm,d.trans m⟩ a
          · exact absurd a O
        · intro g;cases g
    · rename_i m
      rw [Fj K];unfold AU.is;constructor
      · rintro ⟨⟨a,_⟩|⟨_,rfl⟩,b⟩
        · exact ⟨a,b⟩
        · exact absurd b.2.symm m
      · rintro ⟨a,b,d⟩
        exact ⟨.inl ⟨a,fun g=>m (d.symm.trans g.2)⟩,b,d⟩
   have af:c.had=true->∃x,Dc q (IG rs q.ot) c.k=some x:=fun O=>by
    obtain ⟨r,hr,hi,_⟩:=JD (X.1.trans O);exact ⟨r,(Fj K c.k r).2 ⟨hr,by rw [<-G];exact hi⟩⟩
   have J:∀{k x},Dc q (IG rs q.ot) k=some x->x.k=k:=fun g=>((Fj K _ _).1 g).2.2;split
   · rename_i O
     rw [B0 O]at h;obtain ⟨x0,W⟩:=af h;rw [<-List.filterMap_eq_map];refine NB _ _ _ _ fun r _=>?_;unfold prQ;rw [U,O];by_cases m:Bj r q.bq=c.k
     · rw [m,W,B0 rfl]
       simp only [Pr,Lk,Function.comp_apply,HV,J W,decide_true,J1]
     · rw [As m]
       cases I:Dc q (IG rs q.ot) (Bj r q.bq)with
       |none=>rfl
       |some x=>simp only [Pr,Lk,Function.comp_apply,HV,J I,m,dd,Of,Hi]
   · rename_i O
     rw [As O]at h;rw [<-pD];refine NB _ _ _ _ fun r _=>?_;unfold prQ;rw [U,As O];by_cases m:Bj r q.bq=c.k
     · rw [m,B0 rfl]
       obtain ⟨x0,W⟩:=af h;rw [W];simp [Option.guard,HV,J W]
     · rw [As m]
       cases I:Dc q (IG rs q.ot) (Bj r q.bq)with
       |none=>rfl
       |some x=>simp [Option.guard,HV,J I,m]
 · rw [As G]at h⊢
   have hg:∀r,prQ (EO rs c) q r=prQ rs q r:=fun r=>by unfold prQ;rw [iN X G]
   have l9:prQ (EO rs c) q=prQ rs q:=funext hg;rw [l9];have o9:c.t=q.tb:=by
    rcases ow with g|g
    · unfold Nt at g
      rw [TO]at g;rcases g with g|g
      · obtain ⟨y,hy⟩:=kB.1 g
        obtain ⟨e,_,hi⟩:=Oc hy;rw [e]at hi;exact (IF hi).1
      · obtain ⟨y,hy⟩:=kB.1 g
        obtain ⟨e,_,hi⟩:=Oc hy;rw [e]at hi;exact (IF hi).1
    · exact absurd g G
   have ek:((CR rs q).filterMap (prQ rs q)).filter (fun p=>!Pz c.k p)=((CR rs q).filter fun x=>!KC c x).filterMap (prQ rs q):=by
    rw [<-pD,<-pD,pC,pC];refine TS fun r hr=>?_;have Z:r.t=c.t:=((IF ((OJ hq rs r).1 hr).2).1).trans o9.symm
    by_cases m:r.k=c.k
    · cases I:prQ rs q r with
      |none=>simp [Option.guard,KC,Z,m]
      |some p=>simp [Option.guard,KC,Z,m,Pz,(VH I).1]
    · cases I:prQ rs q r with
      |none=>simp [Option.guard,KC,Z,m,I]
      |some p=>simp [Option.guard,KC,Z,m,Pz,(VH I).1,I]
   rw [ek]at h⊢;have gq:=SS hq K X
   rw [<-gq];unfold EC;cases ha:afQ q c with
   |none=>rfl
   |some y=>
    rw [ha]at h;simp only [ha]at h⊢;have hm:mQ q (some y)=Bj y q.bq:=rfl
    rw [hm]at h⊢;have hL:((CR rs q).filter fun x=>!KC c x).Pairwise (leV q.cl.toNat):=(Es K _ _ _ _).sublist Z1
    obtain ⟨A,B,e1,e2,hA,hB⟩:=Vk hq hL y;rw [e2];cases hfi:((CR rs q).filterMap (prQ rs q)).findIdx? (HV (Bj y q.bq))with
    |none=>
     have hi:Gx (HV (Bj y q.bq)) ((CR rs q).filterMap (prQ rs q))=-1:=by unfold Gx;rw [hfi];rfl
     rw [hi,B0 An]at h⊢;rw [Gk,H4]at h;obtain ⟨b,hb⟩:=kB.1 h.1;obtain ⟨eb,gy,l5⟩:=Oc hb;have g:=h.2
     rw [hb]at g;have l8:b∈CR rs q:=by
      refine (OJ hq rs b).2 ⟨?_,l5⟩;obtain ⟨r,hr,hi,_,he⟩:=JD (X.1.trans gy);have hv:=X.2 (X.1.trans gy)
      rw [he]at hv;have:b=r:=by
       rw [eb];obtain ⟨t,k,v⟩:=r;obtain ⟨h5,h6⟩:=hi;simp only at h5 h6 hv;subst h5 h6 hv;rfl
      rw [this];exact hr
     have bn:prQ rs q b=none:=by
      cases I:prQ rs q b with
      |none=>rfl
      |some p=>
       have ax:=eN.1 hfi p (cN.2 ⟨b,l8,I⟩);have kv:=(Fj K _ _).1 (VH I).2
       unfold HV at ax;rw [PB]at ax;exact absurd (kv.2.2.trans g) ax
     have cu:prQ rs q y=none:=by
      unfold prQ at bn⊢;rw [show Bj y q.bq=Bj b q.bq from g.symm];cases I:Dc q (IG rs q.ot) (Bj b q.bq)with
      |none=>rfl
      |some x=>rw [I]at bn;cases bn
     rw [e1,fy,fy,fy];simp [cu]
    |some i=>
     obtain ⟨h1,h2,h3⟩:=cH.1 hfi;have hi:Gx (HV (Bj y q.bq)) ((CR rs q).filterMap (prQ rs q))=(i:Int):=by unfold Gx;rw [hfi];rfl
     rw [hi,As A0]at h⊢;rw [Z2,Q2,BE h1,kk];obtain ⟨r,hr,I⟩:=cN.1 (rB h1);generalize ((CR rs q).filterMap (prQ rs q))[i]=p at h2 I;have h4:=(Fj K _ _).1 (VH I).2
     unfold HV at h2;rw [H4]at h2;have cu:prQ rs q y=some ⟨y,p.r⟩:=by
      unfold prQ;rw [(Fj K (Bj y q.bq) p.r).2 ⟨h4.1,h4.2.1,h2⟩];rfl
     rw [e1,fy,uQ];· simp [cu]
     · intro x hx
       obtain ⟨r9,d9,cO⟩:=cN.1 hx;rw [(VH cO).1];exact hA r9 d9
     · intro x hx
       obtain ⟨r9,d9,cO⟩:=cN.1 hx;rw [(VH cO).1];exact hB r9 d9
theorem dV(B:BG q)(G:BN rs)(m:GR rs c)(I:Cr q c=true)(h:(CB q c (Cf rs q)).2=true):(CB q c (Cf rs q)).1=Cf (EO rs c) q:=by
 by_cases g:q.kd=7
 · exact YX B G m g I h
 · exact YY B G m g I h
def FX(q:QM)(base:Int):Nat->C8×Int->List BJ->Option (C8×Int)
 |_,st,[]=>some st
 |i,st,x::l=>if(Be q st.1 x.cs).2.2=true/\base<=9223372036854775806 -(i:Int)/\x.p=base+1+(i:Int)then FX q base (i+1) ((Be q st.1 x.cs).1,if(Be q st.1 x.cs).2.1 then x.p else st.2) l else none
theorem LU(q:QM)(base:Int):∀(a:List BJ) (i:Nat) (st:C8×Int) (b:List BJ),FX q base i st (a++b)=(FX q base i st a).bind fun g=>FX q base (i+a.length) g b
 |[],i,st,b=>rfl
 |x::a,i,st,b=>by
  show(if(Be q st.1 x.cs).2.2=true/\base<=9223372036854775806 -(i:Int)/\x.p=base+1+(i:Int)then FX q base (i+1) _ (a++b)else none)=(if(Be q st.1 x.cs).2.2=true/\base<=9223372036854775806 -(i:Int)/\x.p=base+1+(i:Int)then FX q base (i+1) _ a else none).bind _;split;· rw [LU q base a (i+1) _ b,EV,show i+(a.length+1)=i+1+a.length by omega]
  · rfl
variable{l:List BJ}
theorem Iz{base:Int}{st g:C8×Int}{x:BJ}(h:FX q base 0 st (l.take k)=some g)(hx:l[k]?=some x):FX q base 0 st (l.take (k+1))=if(Be q g.1 x.cs).2.2=true/\base<=9223372036854775806 -(k:Int)/\x.p=base+1+(k:Int)then some ((Be q g.1 x.cs).1,if(Be q g.1 x.cs).2.1 then x.p else g.2)else none:=by
 have m:=(C6.1 hx).1;rw [Bq hx,LU,h,Cl,S7 A0,DP];rfl
theorem M8{base:Int}{st:C8×Int}(h:FX q base 0 st (l.take k)=none):FX q base 0 st l=none:=by
 rw [<-MA k l,LU,h];rfl
def BH(q:QM)(r:C8)(base:Int)(l:List BJ):C8×Int×Bool:=match FX q base 0 (r,base) l with
 |some st=>(st.1,st.2,true)
 |none=>(C8.none,0,false)
theorem M0(h:(Be q r cs).2.2=true):Ho q r cs=some (Be q r cs).1/\(Be q r cs).2.1=cs.any (Dj q):=by
 unfold Be at*;split at h;· rename_i h9;rw [h9];exact ⟨rfl,rfl⟩
 · cases h
theorem R6{q:QM}{base:Int}:∀(l:List BJ) (i:Nat) (st st':C8×Int) (B:Int) (n:Nat),FX q base i st l=some st'->(∀x∈l,x.cs.length<=1000)->(-B<=st.1.val/\st.1.val<=B)->0<=B->st.1.rows.length<=n->(-(B+2000000000000*(l.length:Int))<=st'.1.val/\st'.1.val<=B+2000000000000*(l.length:Int))/\st'.1.rows.length<=n+2000*l.length
 |[],i,st,st',B,n,h,hl,h1,h2,h3=>by
  unfold FX at h;injection h with h
  subst h;simp only [Mp];exact ⟨⟨by omega,by omega⟩,h3⟩
 |x::l,i,st,st',B,n,h,hl,h1,h2,h3=>by
  unfold FX at h;split at h
  · rename_i h9
    have G:=WZ _ _ _ B n (M0 h9.1).1 h1 h2 h3;have I:=hl x B6
    have m:=R6 l (i+1) _ st' (B+2000000000000) (n+2000) h (fun y hy=>hl y (by simp [hy])) ⟨by simp only;omega,by simp only;omega⟩ A0 (by simp only;omega);rw [EV];obtain ⟨⟨J,K⟩,g⟩:=m;refine ⟨⟨?_,?_⟩,by omega⟩<;>(push_cast;omega)
  · cases h
set_option maxHeartbeats 1000000 in
theorem QN(q:QM)(hq:BG q)(base:Int)(hb:-9223372036854775808<=base/\base<=9223372036854775807){lv:A2}{ML:List A8}(hL:EQ ML lv l)(o8:l.length<=1000)(O:∀x∈l,x.cs.length<=1000)(hr:DV A rv r.rows)(hn:r.rows.length<=1000000)(hv:-1000000000000000000<=r.val/\r.val<=1000000000000000000):BQ prog 85 #[.agg q.A89,.agg #[rv,I0 r.val,.bool r.fnd],I0 base,lv] [A,ML] (fun w H'=>∃Z s',w= .tuple #[.agg #[Z,I0 (BH q r base l).1.val,.bool (BH q r base l).1.fnd],I0 (BH q r base l).2.1,.bool (BH q r base l).2.2]/\BX 5 61 Z (BH q r base l).1.rows.length (Ad (BH q r base l).1.rows) s'/\H'=[s',A,ML]):=by
 have ow:=mL;obtain ⟨pv,cv,rfl,_⟩:=id hr;obtain ⟨pl,kv,rfl,⟨o9,l9⟩,d9⟩:=id hL;refine Se func85 ntmps85 [0,1,2,3] ?_;intro u R;refine A3<|Ze (Bx q.A89)<|AF fun bq=>Ze (Bx #[.slice pv r.rows.length cv,I0 r.val,.bool r.fnd])<|AF fun br=>Ze (Al HP #[_,_,_])<|AF fun bo=>Za Y<|AH Y<|AN Y<|AH Y<|A3<|Zh 0 E4 V rfl DH Y<|Zl GS Y<|Zc [_] Y call97 Y V (Gi hr A0) ?_;rintro _ _ ⟨_,⟨s1,h1,rfl⟩,rfl⟩;obtain ⟨g1,c1,rfl⟩:=h1.form;refine Zh 0 E4 V rfl DH Y<|Xe (Zs DH Y Y V (hi:=by(simp;done)))<|A5<|B7 Y<|Zv (AR HA Y)<|Zm Y<|Z0<|Zn [2,4,5,8,11,22,23,24] ?_;refine Zx<|AP<|Zb [11,24,2,4,5,8,22,23] ?_;refine Ay (e0:=[(11,_),(24,_)]) (fun m e H=>∃(k:Nat) (g:C8×Int) (gk:B8) (ck:Nat) (sk:List A8),m=l.length -k/\(k<=l.length/\FX q base 0 (r,base) (l.take k)=some g/\BX 5 61 (.slice gk g.1.rows.length ck) g.1.rows.length (Ad g.1.rows) sk)/\e=[(11,I0 g.2),(24,I0 (k:Int))]/\H=[[(br,.cells #[.slice gk g.1.rows.length ck,I0 g.1.val,.bool g.1.fnd] 50 (0,0))],sk]) (by exact ⟨0,(r,base),g1,c1,s1,rfl,⟨C7 _,by rw [MT];rfl,h1⟩,rfl,rfl⟩) Wp ?_;rintro _ _ _ ⟨k,g,gk,ck,sk,rfl,⟨hk,B,X⟩,rfl,rfl⟩;obtain ⟨gy,gq⟩:=R6 (l.take k) 0 (r,base) g 1000000000000000000 1000000 B (fun x hx=>O x (R0 hx)) hv A0 hn;have gm:(l.take k).length=k:=by rw [Cl];omega
 rw [gm]at gy gq;have cO:=Db X A0
 refine A3<|Zv (Ar Y Y)<|A5<|Zq<|Ap Y (fun W=>?_) (fun W=>?_);·
  obtain ⟨x,hx⟩:∃x,l[k]?=some x:=⟨_,BE W⟩;have j3:=O x (E7 hx)
  obtain ⟨cu,g2,l8,K,T2,j5,rfl,ic,l5,U⟩:=d9 k x hx;refine B4<|Zq<|AP<|AN Y<|Ba (AZ HA Fi Y Y A0)<|CO (cs:=[(g2,.cells K T2 j5)]) (by simp [ic]) (AA (cs:=#[_,_]) Hh Fi Y A0 U) V rfl<|Ze (Al Tl #[_,_])<|AF fun bx=>Za Y<|Xe (Xw Fi #[I0 x.p,.slice x.q x.cs.length x.cap])<|A5<|A3<|Zo Wh (AA (cs:=#[_,_,_,_,_,_,_]) FG D4 Y B9 B2)<|Zo Wh (AA (cs:=#[_,_,_]) E3 C3 Y B9 B2)<|Zo Wh (AA (cs:=#[_,_]) Hh Fi Y B9 B2)<|Zc [_,_,_] Y call49 Y V (JF q hq x.p x.q x.cap x.cs cu j3 cO A0 A0) ?_;rintro _ _ ⟨_,⟨p8,s3,rfl,h3,rfl⟩,rfl⟩;obtain ⟨g3,c3,rfl⟩:=h3.form;refine Zm Y<|Zd Y V<|Zd Y V<|Zd Y V<|Ze (Al HP #[_,_,_])<|AF fun bn=>Xe (Xw C3 #[.slice g3 (Be q g.1 x.cs).1.rows.length c3,I0 (Be q g.1 x.cs).1.val,.bool (Be q g.1 x.cs).1.fnd])<|Za Y<|B1 Y<|Zn [2,4,5,8,11,12,13,14,15,16,22,23,24] ?_;refine Zx<|B7 Y<|Zv (Bh Y)<|Zm Y<|Ab (t:=39) Y V (fun J=>?_) (fun J=>?_);focus
   have G:(Be q g.1 x.cs).2.2=false:=by simpa using J
   refine AG<|AG<|BT Y Y<|Zm Y<|AG<|AG<|AG<|C5<|BT Y Y<|Z0<|Zn [2,4,5,8,11,13,14,15,22,23,24,53] ?_;refine Zx<|Cg Y<|Zq<|Bc ?_;have I:BH q r base l=(C8.none,0,false):=by unfold BH;rw [M8 (k:=k+1) (by rw [Iz B hx,As (by(rw [G];rintro ⟨h,_⟩;cases h;done))])]
  rotate_left
  focus
   have G:(Be q g.1 x.cs).2.2=true:=by simpa using J
   refine Zf Y Y<|Zf Y Y<|HY Y (CQ (m:=9223372036854775806) Y Y A0 A0) V rfl ?_;refine Yg (Ev Y Y)<|BW Y Y<|Zm Y<|Ae (t:=45) Y V (fun af=>?_) (fun af=>?_);focus
    refine AG<|AG<|AG<|C5<|BT Y Y<|Z0<|Zn [2,4,5,8,11,13,14,15,22,23,24,53] ?_;refine Zx<|Cg Y<|Zq<|Bc ?_;have I:BH q r base l=(C8.none,0,false):=by unfold BH;rw [M8 (k:=k+1) (by rw [Iz B hx,As (by(rintro ⟨_,h8,h9⟩;omega))])]
   rotate_left
   focus
    refine Yf 0 GF V rfl A6 Y<|Yl AE Y<|Zf Y Y<|HY Y (JX Y Y (IntWalk.i64_in _ A0)) V rfl ?_;refine Zf Y Y<|HY Y (JX Y Y (IntWalk.i64_in _ A0)) V rfl ?_;refine Yg (GK Y Y)<|BW Y Y<|Z0<|Zn [2,4,5,8,11,13,14,15,22,23,24,53] ?_;refine Zx<|Ap Y (fun ax=>?_) (fun ax=>?_);focus
     refine Zq<|Bc ?_;have I:BH q r base l=(C8.none,0,false):=by unfold BH;rw [M8 (k:=k+1) (by rw [Iz B hx,As (by(rintro ⟨_,h8,h9⟩;omega))])]
    rotate_left
    refine AC<|CD<|Zo Wh (AA (cs:=#[_,_,_]) E3 C3 Y B9 B2)<|Xe (BF C3 Y Y HT Wu B2 Fm B9 (by exact BA _))<|A5<|AN Y<|A5<|AY Y (fun ht=>?_) (fun ht=>?_);·
     refine Zg<|Zh 0 GF V rfl A6 Y<|Zl AE Y<|B1 Y<|A9<|Zx<|E6 Y Y Y<|DM (e:=[(11,_),(24,_)]) (h:=by exact ⟨k+1,((Be q g.1 x.cs).1,x.p),g3,c3,s3,rfl,⟨by omega,by rw [Iz B hx,B0 ⟨G,by omega,by omega⟩,ht];rfl,h3⟩,rfl,rfl⟩)
    refine AC<|A9<|Zx<|E6 Y Y Y<|DM (e:=[(11,_),(24,_)]) (h:=by exact ⟨k+1,((Be q g.1 x.cs).1,g.2),g3,c3,s3,rfl,⟨by omega,by rw [Iz B hx,B0 ⟨G,by omega,by omega⟩,ht];rfl,h3⟩,rfl,rfl⟩)
  all_goals
   refine Zg<|Zv (BM (vs:=[]) (cs:=#[_,_,_]) Y (Aa (pl:=#[(0,1),(1,1),(2,1)]) HP E4 (fun _=>by kernel_rfl) rfl))<|Xe (Xw C3 _)<|Za Y<|Ax Y<|Zt<|Ag<|Zt<|Zt<|Ag<|Zt<|MW rfl results85 Y Wh (Av E3 C3 Wn (rfl)) Y Y (by exact ⟨.slice none 0 0,[],by rw [I];rfl,by rw [I];exact Bi 5 _,rfl⟩)
 have ek:k=l.length:=by omega
 subst ek;rw [HI]at B;have I:BH q r base l=(g.1,g.2,true):=by unfold BH;rw [B]
 refine BB<|Zt<|Zt<|AV<|CD<|Zo Wh (AA (cs:=#[_,_,_]) E3 C3 Y B9 B2)<|Zm Y<|Xe (Xw C3 _)<|Za Y<|Ax Y<|MW rfl results85 Y Wh (Av E3 C3 Wn (rfl)) Y Y (by exact ⟨.slice gk _ ck,sk,by rw [I];rfl,by rw [I];exact X,rfl⟩)
theorem ji(B:BG q)(G:BN rs)(m:GR rs c)(g:c.ok)(h:(DX q c (Cf rs q)).2=true):(DX q c (Cf rs q)).1=Cf (EO rs c) q:=by
 unfold DX at h⊢;cases ht:Dj q c with
 |false=>
  rw [As An];unfold Dj at ht;rw [DO g,Wa]at ht;exact (uY B m ht).symm
 |true=>
  rw [ht,B0 rfl]at h;rw [B0 rfl];unfold Dj at ht;rw [Gk]at ht;split at h
  · rename_i h9
    rw [B0 h9];exact dV B G m ht.2 h9
  · cases h
theorem Uy{q:QM}(G:BG q){rs:List AU}{cs:List Chg}(I:BN rs)(m:yj cs)(B:∀c∈cs,GR rs c)(g:∀c∈cs,c.ok):∀i,i<=cs.length->∀r,Ho q (Cf rs q) (cs.take i)=some r->r=Cf (DI rs (cs.take i)) q
 |0,_,r,h=>by
  rw [MT]at h⊢;injection h with h
  exact h.symm
 |i+1,hi,r,h=>by
  obtain ⟨c,hc⟩:∃c,cs[i]?=some c:=⟨_,BE A0⟩;obtain ⟨J,h2⟩:=KG I m B i A0;cases hr:Ho q (Cf rs q) (cs.take i)with
  |none=>
   have:=Ux (cs:=cs.take (i+1)) (k:=i) (q:=q) (r:=Cf rs q) (by rw [WD,S7 A0];exact hr);rw [this]at h;cases h
  |some rk=>
   have e:=Uy G I m B g i A0 rk hr;rw [PX hr hc,e]at h;split at h
   · rename_i h9
     injection h with h
     rw [<-h,G6 rs cs i c hc];exact ji G J (h2 i c (CT _) hc) (g c (E7 hc)) h9
   · cases h
theorem pU(g:BG q){p rp:Int}(B:BN rs)(h:KM rs p rp cs)(m:Ho q (Cf rs q) cs=some r):r=Cf (DI rs cs) q:=by
 have:=Uy g B (Ty h.ok.ord) h.fit (fun c hc=>by obtain ⟨i,hi⟩:=HK hc;exact h.ok.all i c hi) cs.length (CT _) r (by rw [HI];exact m);rwa [HI]at this
def RU(q:QM)(x:BJ):Bool:=x.cs.any (Dj q)
structure vS(q:QM)(l:List BJ)(base k:Nat)(s:Int):Prop where
 le:(base:Int)<=s/\s<=((base+k:Nat):Int)
 at_:s≠(base:Int)->∃(j:Nat) (x:BJ),(j:Int)+1=s/\l[j]?=some x/\RU q x=true
 no:∀(j:Nat) (x:BJ),s<=(j:Int)->j<base+k->l[j]?=some x->RU q x=false
theorem PW{q:QM}(O:BG q){l:List BJ}(G:Ew l){base:Nat}(hb:base<=l.length):∀k,base+k<=l.length->∀st,FX q (base:Int) 0 (Cf (BP (l.take base)) q,(base:Int)) ((l.drop base).take k)=some st->st.1=Cf (BP (l.take (base+k))) q/\vS q l base k st.2
 |0,_,st,h=>by
  rw [MT]at h;injection h with h
  subst h;exact ⟨V,⟨by simp only;omega,fun h=>absurd V h,fun j x m h2=>by simp only at m;omega⟩⟩
 |k+1,hk,st,h=>by
  obtain ⟨x,hx⟩:∃x,l[base+k]?=some x:=⟨_,BE A0⟩;have I:(l.drop base)[k]?=some x:=by rw [S2];exact hx
  obtain ⟨K,_⟩:=G _ x hx;have hp:x.p=((base+k:Nat):Int)+1:=K.pos
  cases hr:FX q (base:Int) 0 (Cf (BP (l.take base)) q,(base:Int)) ((l.drop base).take k)with
  |none=>
   have:=M8 (l:=(l.drop base).take (k+1)) (k:=k) (q:=q) (base:=(base:Int)) (st:=(Cf (BP (l.take base)) q,(base:Int))) (by rw [WD,S7 A0];exact hr);rw [this]at h;cases h
  |some sk=>
   obtain ⟨e1,e2⟩:=PW O G hb k A0 sk hr;rw [Iz hr I]at h;split at h
   · rename_i h9
     injection h with h
     subst h;have B:=M0 h9.1
     have m:=(G.rows (base+k) A0).1;rw [e1]at B;refine ⟨?_,?_⟩
     · have:=pU O m K B.1
       rw [show base+(k+1)=base+k+1 by omega,Bq hx,Gh,<-this,e1]
     · have hT:(Be q sk.1 x.cs).2.1=RU q x:=by rw [e1];exact B.2
       simp only [hT];obtain ⟨⟨a1,U⟩,W,X⟩:=e2;cases ht:RU q x with
       |true=>
        simp only [J1];refine ⟨by omega,fun _=>⟨base+k,x,hp.symm,hx,ht⟩,fun j y J Z=>by omega⟩
       |false=>
        simp only [Of,Hi];refine ⟨by push_cast at U⊢;omega,W,fun j y J Z g=>?_⟩;rcases Ft j (base+k)with h8|h8
        · exact X j y J h8 g
        · obtain rfl:j=base+k:=by omega
          rw [hx]at g;injection g with g
          rw [<-g];exact ht
   · cases h
theorem YW(g:1<=q.kd/\q.kd<=4)(c:Chg)(r:C8):(DX q c r).2=true:=by
 have:(CB q c r).2=true:=by
  unfold CB;split;· rfl
  · split
    · rfl
    · rw [B0 A0]
 unfold DX;rw [B0 this];split<;>rfl
theorem Rq{q:QM}(g:1<=q.kd/\q.kd<=4):∀(cs:List Chg) (r:C8),∃m,Ho q r cs=some m
 |[],r=>⟨r,rfl⟩
 |c::cs,r=>by
  unfold Ho;rw [B0 (YW g c r)];exact Rq g cs _
abbrev Bs:=List UInt8
def Yx(s:Bs):Bs:=sha (0::s)
def JA(a b:Bs):Bs:=sha (1::(a++b))
def DU(n:Nat):Nat:=2^Nat.log2 (n -1)
theorem Oi(n:Nat):0<DU n:=ef _
variable{n:Nat}
theorem Oj(h:2<=n):DU n<n:=by
 have:=Nat.log2_self_le (n:=n -1) A0;unfold DU;omega
theorem xV{e:Nat}(g:2^e<n)(h2:n<=2^(e+1)):DU n=2^e:=by
 unfold DU;congr 1;refine (Nat.log2_eq_iff (by have:=ef e;omega)).2 ⟨by omega,by omega⟩
def Dp(l:List Bs):Bs:=
 if h:2<=l.length then JA (Dp (l.take (DU l.length))) (Dp (l.drop (DU l.length)))
 else match l with
  |[]=>sha []
  |x::_=>Yx x
termination_by l.length
decreasing_by
 · have:=Oj h;rw [Cl];omega
 · have:=Oi l.length;rw [D0];omega
theorem qG:Dp []=sha []:=by rw [Dp];rfl
theorem qF(x:Bs):Dp [x]=Yx x:=by rw [Dp];rfl
theorem kH{l:List Bs}(h:2<=l.length):Dp l=JA (Dp (l.take (DU l.length))) (Dp (l.drop (DU l.length))):=by
 rw [Dp,dif_pos h]
theorem V7{a b:List Bs}{e:Nat}(g:a.length=2^e)(h0:0<b.length)(B:b.length<=2^e):Dp (a++b)=JA (Dp a) (Dp b):=by
 have G:=ef e;have m:DU (a++b).length=a.length:=by
  rw [g];exact xV (by rw [C2];omega) (by rw [C2,hQ];omega)
 rw [kH (by rw [C2];omega),m,It,ZD];· rfl
 · rfl
structure JL(ps:List (List Bs)):Prop where
 pow:∀p∈ps,∃e,p.length=2^e
 lt:ps.Pairwise (fun a b=>b.length<a.length)
theorem vE:JL []:=⟨by simp,.nil⟩
theorem qd{a b:Nat}(h:2^a<2^b):2*2^a<=2^b:=by
 have:=(Nat.pow_lt_pow_iff_right (a:=2) A0).1 h
 calc 2*2^a=2^(a+1):=by rw [hQ];omega
  _<=2^b:=Nat.pow_le_pow_right A0 this
variable{p:List Bs}{ps:List (List Bs)}
theorem JL.tail(h:JL (p::ps)):JL ps:=⟨fun q g=>h.pow q (by simp [g]),(S4.1 h.lt).2⟩
theorem JL.init(h:JL (ps++[p])):JL ps:=⟨fun q g=>h.pow q (by simp [g]),(Rg.1 h.lt).1⟩
theorem JL.sum:∀{ps:List (List Bs)} {e:Nat},JL ps->(∀p∈ps,p.length<2^e)->ps.flatten.length<2^e
 |[],e,_,_=>by simpa using ef e
 |p::ps,e,h,hl=>by
  obtain ⟨e1,g⟩:=h.pow p B6;have h2:=hl p B6
  rw [g]at h2;have B:=qd h2
  have G:=JL.sum (e:=e1) h.tail (fun q m=>by rw [<-g];exact (S4.1 h.lt).1 q m);rw [Cp,C2,g];omega
theorem JL.nonempty(h:JL ps)(hn:ps≠[]):0<ps.flatten.length:=by
 cases ps with
 |nil=>exact absurd rfl hn
 |cons p ps=>
  obtain ⟨e,g⟩:=h.pow p B6;have:=ef e
  rw [Cp,C2];omega
theorem JL.root:∀{ps:List (List Bs)} {q:List Bs},JL (ps++[q])->ps.foldr (fun p o=>JA (Dp p) o) (Dp q)=Dp (ps.flatten++q)
 |[],q,_=>by simp
 |p::ps,q,h=>by
  rw [List.foldr_cons,JL.root (ps:=ps) (q:=q) h.tail,Cp,DG];obtain ⟨e,m⟩:=h.pow p B6;have G:(ps++[q]).flatten=ps.flatten++q:=by simp
  have B:JL (ps++[q]):=h.tail;have g:0<(ps++[q]).flatten.length:=JL.nonempty B B6
  have h2:=JL.sum (e:=e) B (fun r I=>by rw [<-m];exact (S4.1 h.lt).1 r I);rw [G]at g h2;exact (V7 m g A0).symm
structure Nv(ls:List Bs)(ps:List (List Bs))(q:List Bs)(i:Nat):Prop where
 bin:JL ps
 pow:∃e,q.length=2^e
 le:∀p∈ps,q.length<=p.length
 flat:ps.flatten++q=ls.take i
variable{ls:List Bs}{i:Nat}
theorem lS{s:Bs}(h:JL ps)(m:ps.flatten=ls.take i)(G:ls[i]?=some s):Nv ls ps [s] (i+1):=
 ⟨h,⟨0,rfl⟩,fun p B=>by
   obtain ⟨e,g⟩:=h.pow p B;have:=ef e
   rw [g];simp;omega,by rw [S5,G,m];rfl⟩
theorem Nv.step{q:List Bs}(h:Nv ls (ps++[p]) q i)(e:p.length=q.length):Nv ls ps (p++q) i/\Dp (p++q)=JA (Dp p) (Dp q):=by
 obtain ⟨e1,g⟩:=h.pow;have I:=ef e1
 refine ⟨⟨h.bin.init,⟨e1+1,by rw [C2,e,g,hQ];omega⟩,?_,?_⟩,V7 (e.trans g) A0 A0⟩
 · intro r B
   obtain ⟨e2,h2⟩:=h.bin.pow r (by simp [B]);have m:=(Rg.1 h.bin.lt).2.2 r B p B6
   rw [e,g,h2]at m;have G:=qd m
   rw [C2,e,g,h2];omega
 · rw [<-h.flat];simp
theorem Nv.done{q:List Bs}(h:Nv ls ps q i)(I:∀m p,ps=m++[p]->p.length≠q.length):JL (ps++[q])/\(ps++[q]).flatten=ls.take i:=by
 refine ⟨⟨?_,?_⟩,by rw [<-h.flat];simp⟩
 · intro r B
   rcases CI.1 B with B|B
   · exact h.bin.pow r B
   · rw [CH]at B
     subst B;exact h.pow
 · rw [Rg]
   refine ⟨h.bin.lt,List.pairwise_singleton _ _,?_⟩;intro a g b J;rw [CH]at J;subst J;rcases ka ps with rfl|⟨m,p,rfl⟩
   · simp at g
   · have K:=I m p B6
     have h2:=h.le p B6;have G:=h.bin.lt
     simp only [pZ]at g G;rw [Rg]at G;rcases CI.1 g with g|g
     · have:=G.2.2 a g p B6
       omega
     · rw [CH]at g
       subst g;omega
variable{xs:List A2}
theorem wO{cur:AM}(h:cur.toList.take xs.length=xs){x:A2}(hx:xs[i]?=some x):cur[i]?=some x:=by
 have g:=(C6.1 hx).1;rw [<-h,HU,B0 g,Hs]at hx;exact hx
theorem uL(ps:List (List Bs))(o:Bs):(ps.map Dp).reverse.foldl (fun o r=>JA r o) o=ps.foldr (fun p o=>JA (Dp p) o) o:=by
 rw [List.foldl_reverse,List.foldr_map]
def EM(M:List A8)(v:A2)(ls:List Bs):Prop:=∃p cap,v= .slice p ls.length cap/\(ls.length<=maxLen/\ls.length<=cap)/\∀(i:Nat) (s:Bs),ls[i]?=some s->∃g off cur T zz,p=some ⟨g,off,none⟩/\(g,Obj.cells cur T zz)∈M/\cur[off+i]?=some (Fz s)
def rtV(p:List Bs):A2:=Fz (Dp p)
def lnV(p:List Bs):A2:=I0 ((p.length:Nat):Int)
variable{e:AK}{s:List A8}
theorem PZ{sz:Nat}{b:B8}{c:Nat}(h:BX sz e (.slice b n c) n xs s)(k:Nat)(B:k<=n):BX sz e (.slice b k c) k (xs.take (k*sz)) s:=by
 obtain ⟨G,h⟩:=h;refine ⟨by rw [Cl,G,S7 (W5 _ B)],?_⟩;rcases h with⟨m,rfl,rfl⟩|⟨g,cap',cur,z,m,rfl,h2,h3,h4,h5,h6⟩
 · injection m with e1 e2 e3
   subst e1 e3;obtain rfl:k=0:=by omega
   exact .inl ⟨V,V,V⟩
 · injection m with e1 e2 e3
   subst e1 e3;refine .inr ⟨g,c,cur,z,V,V,by omega,h3,h4,?_,h6⟩;rw [<-h5,WD,S7 (W5 _ B)]
variable{v:A2}
theorem LV(h:BX 1 e v n xs s)(h0:0<n):∃g cap cur z,v=I2 g n cap/\s=[(g,.cells cur e z)]/\n<=cap/\∀(i:Nat) (x:A2),xs[i]?=some x->cur[i]?=some x:=by
 obtain ⟨I,⟨_,B,_⟩|⟨g,m,cur,z,B,rfl,h2,J,K,G,O⟩⟩:=h;· omega
 · rw [<-I]at G
   exact ⟨g,m,cur,z,B,V,h2,fun i x hx=>wO G hx⟩
theorem EM.mono{M M':List A8}(h:EM M v ls)(I:∀c∈M,c∈M'):EM M' v ls:=by
 obtain ⟨p,cap,e,G,B⟩:=h;refine ⟨p,cap,e,G,fun i s J=>?_⟩;obtain ⟨g,off,cur,T,zz,e1,m,h2⟩:=B i s J;exact ⟨g,off,cur,T,zz,e1,I _ m,h2⟩
theorem Hg(h:BX 1 e v ls.length (ls.map Fz) s)(hn:ls.length<=maxLen):EM s v ls:=by
 rcases S3 ls.length with h0|h0
 · obtain ⟨b,cap,rfl⟩:=h.form
   exact ⟨b,cap,rfl,⟨hn,by omega⟩,fun i s m=>by rw [OR h0]at m;simp at m⟩
 · obtain ⟨g,cap,cur,z,rfl,rfl,B,G⟩:=LV h h0
   refine ⟨_,cap,V,⟨hn,B⟩,fun i s m=>⟨g,0,cur,e,z,V,by simp,?_⟩⟩;rw [DP];exact G i _ (by rw [FF,m];rfl)
theorem LZ(l:List Bs):(Dp l).length=32:=by
 rw [Dp];split;· exact WX _
 · split<;>exact WX _
theorem lg(s:Bs)(I:s.length<=140737488354000)(g:AK)(G:Nat×Nat):Az prog 237 #[.string (str s)] [[(4,.cells (Ec.map Cq).toArray g G)]] (.string (str (Yx s))):=by
 refine Se func237 ntmps237 [0] ?_;intro u R;refine A3<|AH Y<|A3<|Zc [_] Y call268 Y V (QW (str [0])) ?_;rintro _ _ ⟨_,⟨B,rfl,rfl⟩,rfl⟩;refine Zm Y<|Ze (Ah (vs:=[_]) (cs:=[_]) Dd HD Ks Y V rfl V rfl V)<|AF fun m=>Xr [_] Y call303 Y V (Lm m 0 1 B #[Fz s] _ _ _ _ [s] [0] V B6 B6 LO _ _)<|Ax Y<|AX V results237 Y (by exact ⟨by simp [Yx],V⟩)
theorem VY(a b:Bs)(I:a.length<=1000000000)(J:b.length<=1000000000)(g:AK)(G:Nat×Nat):Az prog 238 #[.string (str a),.string (str b)] [[(4,.cells (Ec.map Cq).toArray g G)]] (.string (str (JA a b))):=by
 refine Se func238 ntmps238 [0,1] ?_;intro u R;refine A3<|AH Y<|A3<|Zc [_] Y call268 Y V (QW (str [1])) ?_;rintro _ _ ⟨_,⟨B,rfl,rfl⟩,rfl⟩;refine Zm Y<|Zm Y<|Ze (Ah (vs:=[_,_]) (cs:=[_,_]) Dd HD Ks Y V rfl V rfl V)<|AF fun m=>Xr [_] Y call303 Y V (Lm m 0 2 B #[Fz a,Fz b] _ _ _ _ [a,b] [1] V B6 B6 LO _ _)<|Ax Y<|AX V results238 Y (by exact ⟨by simp [JA],V⟩)
end Go.Proofs.YtelliknjeemfoaaGreatDoor
