/- eval: From, Of, Same. -/
import Derived.Test.YtlkdhannldcfbaaGreatDoorQe6
set_option linter.unusedVariables false
set_option linter.unusedSimpArgs false
namespace Go.Proofs.YtlkdhannldcfbaaGreatDoor
open Go.Proofs.Tryz
open Go Go.RowKit Gw
set_option maxRecDepth 100000
attribute [local irreducible] Gw.At Gw.Nx Gw.Ops
def IG(q:QM)(rows others:List AY):CP:=if BS q then EZ q rows others else CP.none
variable{q:QM}{others rows:List AY}
theorem wH(h:¬BS q):IG q rows others=⟨[],0,false⟩:=As h
theorem MO(h:BS q):IG q rows others=EZ q rows others:=B0 h
theorem yh(h:BS q)(k:q.kd=3):IG q rows others=⟨[],rows.length,false⟩:=by rw [MO h];unfold EZ;rw [B0 k]
theorem yg(h:BS q)(k:q.kd=4):IG q rows others=⟨[],MU (Cy q rows),false⟩:=by rw [MO h];unfold EZ;rw [As A0,B0 k]
theorem yf(h:BS q)(k:q.kd=5):IG q rows others=Ej (fun a b=>decide (a<b)) (Cy q rows):=by rw [MO h];unfold EZ;rw [As A0,As A0,B0 k]
theorem yc(h:BS q)(k:q.kd=6):IG q rows others=Ej (fun a b=>decide (b<a)) (Cy q rows):=by rw [MO h];unfold EZ;rw [As A0,As A0,As A0,B0 k]
theorem yZ(h:BS q)(k:q.kd=7):IG q rows others=⟨JL q rows others,0,false⟩:=by rw [MO h];unfold EZ;rw [As A0,As A0,As A0,As A0,B0 k]
theorem yj(h:BS q)(g:¬q.kd=3)(m:¬q.kd=4)(y:¬q.kd=5)(E:¬q.kd=6)(G:¬q.kd=7):IG q rows others=⟨rows,0,false⟩:=by rw [MO h];unfold EZ;rw [As g,As m,As y,As E,As G]
variable{ms:List Int}{i:Nat}
theorem jA{x:Int}(h:ms[i]?=some x):MU (ms.take (i+1))=MU (ms.take i)+x:=by unfold MU;rw [C8 h,RW];rfl
theorem Rx(B:Int):∀(ms:List Int),(∀m∈ms,-B<=m/\m<=B)->-(ms.length*B)<=KU ms/\KU ms<=ms.length*B
 |[],_=>by simp [KU]
 |m::ms,h=>by
  have g:=h m B3;have h2:=Rx B ms (fun y hy=>h y (HQ _ hy))
  have E:((m::ms).length:Int)*B=ms.length*B+B:=by rw [D3];push_cast;rw [Int.add_mul,Int.one_mul]
  simp only [KU];omega
theorem gK(h:∀m∈ms,-1000000000<=m/\m<=1000000000)(E:ms.length<=1000000000)(i:Nat):-1000000000000000000<=MU (ms.take i)/\MU (ms.take i)<=1000000000000000000:=by
 have y:=Rx 1000000000 (ms.take i) (fun m g=>h m (HI g));have h2:(ms.take i).length<=1000000000:=by rw [zy];omega
 unfold MU;rw [NU];omega
theorem l6{lt:Int->Int->Bool}{x:Int}(h:ms[i]?=some x):Ej lt (ms.take (i+1))=⟨(Ej lt (ms.take i)).rows,if !(Ej lt (ms.take i)).fnd||lt x (Ej lt (ms.take i)).val then x else(Ej lt (ms.take i)).val,true⟩:=by unfold Ej;rw [C8 h,RW];rfl
theorem NV(lt:Int->Int->Bool)(ms:List Int):∀r:CP,(ms.foldl (fun r n=>⟨r.rows,if !r.fnd||lt n r.val then n else r.val,true⟩:CP->Int->CP) r).rows=r.rows:=by
 induction ms with
 |nil=>intro r;rfl
 |cons m ms ih=>intro r;rw [Tl,ih]
variable{M:List AU}{v:A4}
theorem eX(hv:Da M v rows)(y:rows.length<=1000000000):BC prog 78 #[v,.agg #[.slice none 0 0,I4 0,.bool false],.func (.func 79) #[] #[]] [M] (.agg #[.slice none 0 0,I4 (rows.length:Int),.bool false]):=
 eD hv (fun i=>((i:Int),false)) rfl 79 [] call79 (fun i r m=>by
  have g:=(zt.1 m).1;have:=eB (i:Int) false r A0
  exact Mx this)
variable{s:List AU}{cap:Nat}
theorem mZ{p:B7}(hc:GR s p (ms.map ivQ))(G:ms.length<=1000000000)(g:ms.length<=cap)(y:∀m∈ms,-1000000000<=m/\m<=1000000000):BC prog 80 #[.slice p ms.length cap,.agg #[.slice none 0 0,I4 0,.bool false],.func (.func 82) #[] #[]] [s] (.agg #[.slice none 0 0,I4 (MU ms),.bool false]):=by
 have I:=mL;have h:=Te hc A0 g (fun i=>(MU (ms.take i),false)) rfl 82 [] call82 (fun i x hx=>by
  have J:=gK y G i;have h2:=y x (Cd hx)
  have E:=dz (MU (ms.take i)) x false A0;show BC _ _ _ _ (.agg #[.slice none 0 0,I4 (MU (ms.take (i+1))),.bool false])
  rw [jA hx];exact Mx E)
 rwa [G0]at h
theorem ZY{p:B7}(hc:GR s p (ms.map ivQ))(W:ms.length<=1000000000)(G:ms.length<=cap)(b m:Nat)(lt:Int->Int->Bool)(E:∀(args:AN) (w:A6),(callFunc m args).run prog w= .ok (.enter m args) w)(I:∀x y:Int,BC prog m #[I4 x,I4 y] [] (.bool (lt x y))):BC prog 80 #[.slice p ms.length cap,.agg #[.slice none 0 0,I4 0,.bool false],.func (.func 146) #[] #[I5 b]] [s,[(b,.cells #[.func (.func m) #[] #[]] 154 (0,0))]] (.agg #[.slice none 0 0,I4 (Ej lt ms).val,.bool (Ej lt ms).fnd]):=by
 have O:=mL;refine lI ?_;have h:=Te (M:=s++[(b,.cells #[.func (.func m) #[] #[]] 154 (0,0))]) (ms:=ms) (p:=p) (fun j u U=>by
  obtain ⟨g,o,c,T,z,J,h2,K⟩:=hc j u U;exact ⟨g,o,c,T,z,J,E3 _ h2,K⟩) A0 G (fun i=>((Ej lt (ms.take i)).val,(Ej lt (ms.take i)).fnd)) V 146 [I5 b] call146 (fun i x hx=>by
  show BC _ _ _ _ (.agg #[.slice none 0 0,I4 (Ej lt (ms.take (i+1))).val,.bool (Ej lt (ms.take (i+1))).fnd]);rw [l6 hx];exact aM (l7 (Ej lt (ms.take i)).val x (Ej lt (ms.take i)).fnd b m lt E I))
 rwa [G0]at h
theorem iB(h:∀r∈rows,-1000000000<=Bh r q.bq/\Bh r q.bq<=1000000000):∀m∈Cy q rows,-1000000000<=m/\m<=1000000000:=by
 intro m g;obtain ⟨r,y,rfl⟩:=GB.1 g;exact h r y
set_option maxHeartbeats 1000000 in
theorem kr{vo:A4}(hv:Da M v rows)(ho:Da M vo others)(q:QM)(hb:rows.length<=1000000000)(hm:BS q->∀r∈rows,-1000000000<=Bh r q.bq/\Bh r q.bq<=1000000000):Bz prog 34 #[.agg q.Ao6,v,vo] [M] (fun w H'=>∃rv s,w= .agg #[rv,I4 (IG q rows others).val,.bool (IG q rows others).fnd]/\BZ 5 98 rv (IG q rows others).rows.length (Ac (IG q rows others).rows) s/\H'=[s,M]):=by
 have ax:=mL;refine Se func34 ntmps34 [0,1,2] ?_;intro u R;refine A1<|Ze (Bx #[_,_,_,_,_,_,_])<|AF fun bq=>Ze (Al GW #[_,_,_])<|AF fun br=>AD<|Zq<|A1<|Zo Wh (A9 (cs:=#[_,_,_,_,_,_,_]) F2 CM Y B5 An)<|Xr [_] Y call33 Y V (KC q)<|Zv (C9 Y)<|AD<|Ad Y (fun hq=>?_) (fun hq=>?_);·
  have g:¬BS q:=by simpa using hq
  refine Zq<|Bl<|Zg<|Zv (BQ (vs:=[]) (cs:=#[_,_,_]) Y (Aa (pl:=#[(0,1),(1,1),(2,1)]) GW Cp (fun _=>by kernel_rfl) rfl))<|Xe (Xw B6 _)<|AD<|AA<|Zt<|DI rfl bd Y Wh (Ar CC B6 Wn (rfl)) (by exact ⟨.slice none 0 0,[],by rw [wH g];rfl,by rw [wH g];exact Ba 5 _,rfl⟩)
 have g:BS q:=by simpa using hq
 have y:0<=q.bq/\q.bq<=3:=by have:=g.2.2.2;omega
 have af:=iB (hm g);refine AB<|Zx<|A1<|Ze (Al GW #[_,_,_])<|AF fun bn=>AD<|Zq<|A1<|Zh 0 CN V rfl A5 Y<|Zl AE Y<|AD<|AX<|A1<|Zv (Br Y Y)<|A3 Y<|Ak Y (fun O=>?_) (fun O=>?_);·
  refine Zq<|Bl<|Zg<|Zm Y<|Zo Wh (Pa #[_,_,_] CC B6 Y)<|Xr [_,_,_] Y call78 Y V (eX hv hb)<|Xe (Xw B6 _)<|Z0<|Zn [6] ?_;refine Zx<|AA<|Ab<|Zt<|DI rfl bd Y Wh (Ar CC B6 Wn (rfl)) (by exact ⟨.slice none 0 0,[],by rw [yh g O];rfl,by rw [yh g O];exact Ba 5 _,rfl⟩)
 refine A1<|Zv (Br Y Y)<|A3 Y<|Ak Y (fun U=>?_) (fun U=>?_);·
  refine Zq<|Bl<|BJ (n:=6) (0::0::3::0::15::31::[]) 52 AG AG V<|Fc 0 V Wh (A9 (cs:=#[_,_,_,_,_,_,_]) F2 CM Y B5 An)<|A2 1 V (AJ Y)<|Fc 3 V Wh (Pa #[_,_,_] CC B6 Y)<|Zz (l:=[2])<|BE [true,false] [(3,(_,_))] V rfl (Zw [_,_] Y call81 Y V (NR hv q y A0)) ?_ Co Ay;rintro _ _ ⟨_,⟨sm,m,rfl⟩,rfl⟩;refine ⟨Zk (Ae),?_⟩;obtain ⟨K,cm,rfl⟩:=m.form;have E:GR sm K ((Cy q rows).map ivQ):=MF m
  have J:=LC q rows;have I:=Ex m
  refine Yw 4 31 V (Zu [_,_,_] Y call80 Y V (mZ E A0 A0 af))<|C3<|Yw 5 63 V (Xw B6 _)<|C3<|Ao<|Zn [6] ?_;refine Zx<|AA<|Ab<|Zt<|DI rfl bd Y Wh (Ar CC B6 Wn (rfl)) (by exact ⟨.slice none 0 0,[],by rw [yg g U];rfl,by rw [yg g U];exact Ba 5 _,rfl⟩)
 refine A1<|Zv (Br Y Y)<|AH Y<|Zn [1,2,3,6,7,13,26] ?_;refine Zx<|Ak Y (fun W=>?_) (fun W=>?_);·
  refine Zq<|Bl<|BJ (n:=7) (0::0::3::0::7::31::63::[]) 116 AG AG V<|Fc 0 V Wh (A9 (cs:=#[_,_,_,_,_,_,_]) F2 CM Y B5 An)<|A2 1 V (AJ Y)<|Fc 3 V Wh (Pa #[_,_,_] CC B6 Y)<|Zz (l:=[2])<|BE [true,false] [(3,(_,_))] V rfl (Zw [_,_] Y call81 Y V (NR hv q y A0)) ?_ Co Ay;rintro _ _ ⟨_,⟨sm,m,rfl⟩,rfl⟩;refine ⟨Zk (Ae),?_⟩;obtain ⟨K,cm,rfl⟩:=m.form;have E:GR sm K ((Cy q rows).map ivQ):=MF m
  have J:=LC q rows;have I:=Ex m
  refine Zz (l:=[4])<|BE [true] [(3,(_,_))] V rfl (Zw [_] Y call83 Y V (Nq (.func (.func 84) #[] #[]) V rfl)) ?_ Co Ay;rintro _ _ ⟨_,⟨b9,rfl,rfl⟩,rfl⟩;refine BT<|Yw 5 63 V (Zu [_,_,_] Y call80 Y V (ZY E A0 A0 b9 84 _ call84 dx))<|C3<|Yw 6 127 V (Xw B6 _)<|C3<|Ao<|Zx<|AA<|Ab<|Zt<|DI V bd Y Wh (Ar CC B6 Wn (V)) (by
   have e8:=NV (fun a b=>decide (a<b)) (Cy q rows) CP.none;exact ⟨.slice none 0 0,[],by rw [yf g W];rfl,by rw [yf g W];rw [show(Ej (fun a b=>decide (a<b)) (Cy q rows)).rows=[] from e8];exact Ba 5 _,rfl⟩)
 refine A1<|Zv (Br Y Y)<|A3 Y<|Ak Y (fun X=>?_) (fun X=>?_);·
  refine Zq<|Bl<|BJ (n:=7) (0::0::3::0::7::31::63::[]) 116 AG AG V<|Fc 0 V Wh (A9 (cs:=#[_,_,_,_,_,_,_]) F2 CM Y B5 An)<|A2 1 V (AJ Y)<|Fc 3 V Wh (Pa #[_,_,_] CC B6 Y)<|Zz (l:=[2])<|BE [true,false] [(3,(_,_))] V rfl (Zw [_,_] Y call81 Y V (NR hv q y A0)) ?_ Co Ay;rintro _ _ ⟨_,⟨sm,m,rfl⟩,rfl⟩;refine ⟨Zk (Ae),?_⟩;obtain ⟨K,cm,rfl⟩:=m.form;have E:GR sm K ((Cy q rows).map ivQ):=MF m
  have J:=LC q rows;have I:=Ex m
  refine Zz (l:=[4])<|BE [true] [(3,(_,_))] V rfl (Zw [_] Y call83 Y V (Nq (.func (.func 85) #[] #[]) V rfl)) ?_ Co Ay;rintro _ _ ⟨_,⟨b9,rfl,rfl⟩,rfl⟩;refine BT<|Yw 5 63 V (Zu [_,_,_] Y call80 Y V (ZY E A0 A0 b9 85 _ call85 dw))<|C3<|Yw 6 127 V (Xw B6 _)<|C3<|Ao<|Zx<|AA<|Ab<|Zt<|DI V bd Y Wh (Ar CC B6 Wn (V)) (by
   have e8:=NV (fun a b=>decide (b<a)) (Cy q rows) CP.none;exact ⟨.slice none 0 0,[],by rw [yc g X];rfl,by rw [yc g X];rw [show(Ej (fun a b=>decide (b<a)) (Cy q rows)).rows=[] from e8];exact Ba 5 _,rfl⟩)
 refine A1<|Zv (Br Y Y)<|A3 Y<|Ak Y (fun Z=>?_) (fun Z=>?_);·
  refine A1<|Zo Wh (A9 (cs:=#[_,_,_,_,_,_,_]) F2 CM Y B5 An)<|Zm Y<|Zm Y<|Zc [_,_,_] Y call86 Y V (ZE hv ho q y A0) ?_;rintro _ _ ⟨_,⟨sj,G,rfl⟩,rfl⟩;obtain ⟨gj,cj,rfl⟩:=G.form;refine Zv (BQ (vs:=[(0,_)]) (cs:=#[_,_,_]) Y (Aa (pl:=#[(0,1),(1,1),(2,1)]) GW Cp (fun _=>by kernel_rfl) rfl))<|Xe (BN B6 Y Y (by(simp [Value.oneCell',Value.cells];done)) Wu An Ek AK (by exact BU _))<|AD<|AA<|Ab<|Zt<|DI rfl bd Y Wh (Ar CC B6 Wn (rfl)) (by exact ⟨.slice gj _ cj,sj,by rw [yZ g Z];rfl,by rw [yZ g Z];exact G,rfl⟩)
 refine AB<|A8<|Zx<|A1<|Zm Y<|Zc [_] Y call87 Y V (Iw hv A0) ?_;rintro _ _ ⟨_,⟨sj,G,rfl⟩,rfl⟩;obtain ⟨gj,cj,rfl⟩:=G.form;refine Zv (BQ (vs:=[(0,_)]) (cs:=#[_,_,_]) Y (Aa (pl:=#[(0,1),(1,1),(2,1)]) GW Cp (fun _=>by kernel_rfl) rfl))<|Xe (BN B6 Y Y (by(simp [Value.oneCell',Value.cells];done)) Wu An Ek AK (by exact BU _))<|AD<|AA<|DI rfl bd Y Wh (Ar CC B6 Wn (rfl)) (by exact ⟨.slice gj _ cj,sj,by rw [yj g O U W X Z];rfl,by rw [yj g O U W X Z];exact G,rfl⟩)
theorem Wx{x y:CP}:x=y↔x.val=y.val/\x.fnd=y.fnd/\x.rows=y.rows:=by
 obtain ⟨a,b,c⟩:=x;obtain ⟨d,e,f⟩:=y;simp only [CP.mk.injEq];constructor;· rintro ⟨g,h2,m⟩;exact ⟨h2,m,g⟩
 · rintro ⟨g,h2,m⟩;exact ⟨m,g,h2⟩
theorem NF{r:AY}(h:r.ok)(c:Int):-1000000000<=Bh r c/\Bh r c<=1000000000:=by
 obtain ⟨⟨g,h2,m⟩,y,E⟩:=h;unfold inV at g h2 m;unfold Bh;split;· omega
 · split
   · omega
   · split
     · omega
     · split<;>omega
variable{B A:List AU}
theorem TZ{g:A4}(hv:Da A v rows)(E:Da B g others)(q:QM)(m:rows.length<=1000000000)(y:BS q->∀r∈rows,-1000000000<=Bh r q.bq/\Bh r q.bq<=1000000000):Bz prog 34 #[.agg q.Ao6,v,g] [A,B] (fun w H'=>∃rv s,w= .agg #[rv,I4 (IG q rows others).val,.bool (IG q rows others).fnd]/\BZ 5 98 rv (IG q rows others).rows.length (Ac (IG q rows others).rows) s/\H'=[s,A,B]):=by
 refine Dw (kr (hv.mono (fun c hc=>E3 B hc)) (E.mono (fun c hc=>DA A hc)) q m y) B3 ?_;rintro r H' ⟨rv,s,rfl,h,rfl⟩;exact ⟨_,⟨rv,s,V,h,V⟩,by simp⟩
theorem Uw(v:A4)(p:Int)(rs:List AY)(s:List AU)(hv:Pk v p rs s)(t c lo hi:Int)(hc:0<=c/\c<=3):Bz prog 35 #[v,I4 t,I4 c,I4 lo,I4 hi] [s] (fun r H'=>∃g,BZ 5 98 r (Cg rs t c.toNat lo hi).length (Ac (Cg rs t c.toNat lo hi)) g/\H'=[g,s]):=by
 have h:=Y5 v p rs s hv t c.toNat lo hi A0;rwa [show((c.toNat:Nat):Int)=c by omega]at h
theorem Lf{rs:List AY}{t:Int}{c:Nat}{lo hi:Int}:(Cg rs t c lo hi).length<=rs.length/\∀r∈Cg rs t c lo hi,r∈rs:=by
 have h:=Ez rs t c lo hi;exact ⟨by rw [h.length_eq];exact SJ _ _,fun r g=>(MD.1 (h.mem_iff.1 g)).1⟩
theorem lD{rs:List AY}(h:BS q):IG q (Cg rs q.tb q.cl.toNat q.lo q.hi) (G9 rs q.ot)=D5 rs q:=MO h
theorem Tt{G I:A4}{x y:CP}(m:Da M G x.rows)(E:Da M I y.rows):BC prog 12 #[.agg #[G,I4 x.val,.bool x.fnd],.agg #[I,I4 y.val,.bool y.fnd]] [M] (.bool (decide (x=y))):=by
 obtain ⟨X,U,rfl,_⟩:=id m;obtain ⟨Z,W,rfl,_⟩:=id E;refine Se func12 ntmps12 [0,1] ?_;intro u R;refine A1<|Ze (Bx #[_,_,_])<|AF fun K=>Ze (Bx #[_,_,_])<|AF fun O=>A3 Y<|A1<|Zh 1 Cp V rfl A5 Y<|Zl AE Y<|Zh 1 Cp V rfl A5 Y<|Zl AE Y<|Zv (Br Y Y)<|Zm Y<|Ai (t:=10) Y V (fun J=>?_) (fun J=>?_);·
  refine Yf 2 Cp V rfl Cl Y<|Yl DH Y<|Yf 2 Cp V rfl Cl Y<|Yl DH Y<|Yg (dK On Y Y)<|Zv (AR Y Y)<|Zm Y<|Ai (t:=17) Y V (fun h2=>?_) (fun h2=>?_);·
   refine Yf 0 Cp V rfl C4 Y<|Yl DO Y<|Yf 0 Cp V rfl C4 Y<|Yl DO Y<|Xr [_,_] Y call37 Y V (aF m E)<|Zv (AR Y Y)<|AH Y<|Zn [4] ?_;refine Zx<|AA<|AC V results12 Y (by
    have g:decide (x=y)=decide (x.val=y.val/\x.fnd=y.fnd/\x.rows=y.rows):=decide_eq_decide.2 Wx;exact ⟨congrArg Value.bool (by rw [g];simp [*]),rfl⟩)
  refine A7 Y V<|A7 Y V<|A7 Y V<|A7 Y V<|A7 Y V<|Zv (AL Y Y)<|AH Y<|Zn [4] ?_;refine Zx<|AA<|AC V results12 Y (by
   have g:decide (x=y)=decide (x.val=y.val/\x.fnd=y.fnd/\x.rows=y.rows):=decide_eq_decide.2 Wx;exact ⟨congrArg Value.bool (by rw [g];simp [*]),rfl⟩)
 refine A7 Y V<|A7 Y V<|A7 Y V<|A7 Y V<|A7 Y V<|Zv (AL Y Y)<|Zm Y<|A7 Y V<|A7 Y V<|A7 Y V<|A7 Y V<|A7 Y V<|Zv (AL Y Y)<|AH Y<|Zn [4] ?_;refine Zx<|AA<|AC V results12 Y (by
  have g:decide (x=y)=decide (x.val=y.val/\x.fnd=y.fnd/\x.rows=y.rows):=decide_eq_decide.2 Wx;exact ⟨congrArg Value.bool (by rw [g];simp [*]),rfl⟩)
set_option maxHeartbeats 1000000 in
theorem uR(v:A4)(p:Int)(rs:List AY)(s:List AU)(hv:Pk v p rs s)(J:∀r∈rs,r.ok)(q:QM)(K:BS q):Bz prog 11 #[v,.agg q.Ao6] [s] (fun w H'=>∃rv sr,w= .tuple #[.agg #[rv,I4 (D5 rs q).val,.bool (D5 rs q).fnd],I4 0]/\BZ 5 98 rv (D5 rs q).rows.length (Ac (D5 rs q).rows) sr/\H'=[sr,s]):=by
 have I:=K.2.1;obtain ⟨sp,mb,es,ck,lm,rfl,Z,X,bn,ax,cu⟩:=id hv;have O:=@Lf rs q.tb q.cl.toNat q.lo q.hi
 have bf:(G9 rs q.ot).length<=rs.length:=SJ _ _;have af:=mL
 refine Se func11 ntmps11 [0,1] ?_;intro u R;refine A1<|Ze (Bx #[_,_,_,_,_,_,_])<|AF fun bq=>Ze (Al GW #[_,_,_])<|AF fun br=>A3 Y<|Zq<|AX<|A1<|Zm Y<|Zv (Ef ao Y Y)<|A3 Y<|Ad Y (fun g=>by cases g)<|fun g=>A1<|Zo Wh (Pa #[_,_,_,_,_,_,_] F2 CM Y)<|Xr [_] Y call33 Y V (KC q)<|Zv (C9 Y)<|A3 Y<|Ad Y (fun m=>?_) (fun m=>?_);·
  exfalso;simp [K]at m
 refine AB<|A8<|Zx<|Zq<|BJ (n:=18) (0::0::0::4::0::16::0::64::0::256::1022::0::0::4096::16382::32767::65535::131071::[]) 115712 AG AG V<|Fc 0 V Wh (Pa #[_,_,_,_,_,_,_] F2 CM Y)<|A2 1 V (AJ Y)<|A2 2 V (AV (off:=1) CN V rfl A5 Y)<|B2 3 V AE Y<|A2 4 V (AV (off:=2) CN V rfl A5 Y)<|B2 5 V AE Y<|A2 6 V (AV (off:=3) CN V rfl A5 Y)<|B2 7 V AE Y<|A2 8 V (AV (off:=4) CN V rfl A5 Y)<|B2 9 V AE Y<|A2 11 V (AJ Y)<|A2 12 V (AV (off:=6) CN V rfl A5 Y)<|B2 13 V AE Y<|Zz (l:=[10])<|BE [true,false,false,false,false,true] [(13,(_,_)),(0,(_,_))] V rfl (Zw [_,_,_,_,_] Y call35 Y V (Uw _ p rs s hv q.tb q.cl q.lo q.hi I)) ?_ Co Ay;rintro _ _ ⟨_,⟨s1,U,rfl⟩,rfl⟩;refine ⟨Zk (Zk (Ae)),?_⟩;obtain ⟨p1,c1,rfl⟩:=U.form;have E:=D6 U A0
 refine Zz (l:=[14])<|BE [false,true] [(0,(_,_))] V rfl (Zw [_,_] Y call36 Y V (u6 _ p rs s hv q.ot)) ?_ Co Ay;rintro _ _ ⟨_,⟨s2,h2,rfl⟩,rfl⟩;refine ⟨Zk (Ae),?_⟩;obtain ⟨p2,c2,rfl⟩:=h2.form;have G:=D6 h2 A0
 refine Zz (l:=[15])<|BE [false] [] V rfl (Zw [_,_,_] Y call34 Y V (TZ E G q A0 (fun _ r hr=>NF (J r (O.2 r hr)) q.bq))) ?_ Co Ay;rintro _ _ ⟨_,⟨rv,s3,rfl,y,rfl⟩,rfl⟩;refine ⟨Ae,?_⟩;rw [lD K]at y⊢;obtain ⟨p3,W,rfl⟩:=y.form;refine Yw 16 131071 V (Xw B6 _)<|C3<|A2 17 V (BF Y)<|Ao<|Zn [4,5] ?_;refine Zx<|AA<|CJ V results11 Y Wh (Ar CC B6 Wn (V)) Y (by exact ⟨.slice p3 _ W,s3,V,y,V⟩)
def Ka(c:Chg)(x:AY):Bool:=decide (x.t=c.t)&&decide (x.k=c.k)
def LW(q:QM)(y x:AY):Bool:=decide (Bh y q.cl<Bh x q.cl)||(decide (Bh x q.cl=Bh y q.cl)&&decide (y.k<x.k))
def RY(pd:AY->Bool)(rows:List AY)(y:AY):List AY:=rows.take ((rows.findIdx? pd).getD rows.length)++[y]++rows.drop ((rows.findIdx? pd).getD rows.length)
def EM(q:QM)(c:Chg)(rows:List AY):List AY:=match afQ q c with
 |some y=>RY (LW q y) (rows.filter fun x=>!Ka c x) y
 |none=>rows.filter fun x=>!Ka c x
def Kb(lt:Int->Int->Bool)(b a:Bool)(o n:Int)(r:CP):CP×Bool:=
 if b&&(!r.fnd||!lt r.val o)then(⟨r.rows,n,r.fnd⟩,(a&&r.fnd)&&!lt r.val n)
 else if a then(⟨r.rows,if !r.fnd||lt n r.val then n else r.val,true⟩,true)else(r,true)
theorem qH(g:AY->Bool)(rows:List AY)(y:AY):(RY g rows y).length=rows.length+1:=by
 unfold RY;simp only [zq,zy,C0,FF];omega
theorem UH(q:QM)(c:Chg)(rows:List AY):(EM q c rows).length<=rows.length+1:=by
 have h:=SJ (fun x=>!Ka c x) rows;unfold EM;split;· rw [qH];omega
 · omega
theorem NW(lt:Int->Int->Bool)(b a:Bool)(o n:Int)(r:CP):(Kb lt b a o n r).1.rows=r.rows:=by
 unfold Kb;split;· rfl
 · split<;>rfl
theorem vC(g:AY->Bool)(rows:List AY):(Ra g rows<0/\(rows.findIdx? g).getD rows.length=rows.length)\/∃i:Nat,i<=rows.length/\Ra g rows=(i:Int)/\(rows.findIdx? g).getD rows.length=i:=by
 unfold Ra;cases h:rows.findIdx? g with
 |none=>exact .inl ⟨by simp,rfl⟩
 |some i=>
  obtain ⟨m,_,_⟩:=W1.1 h;exact .inr ⟨i,by omega,V,V⟩
theorem jZ(q:QM)(c:Chg)(y E:B7)(o n:Int)(x:AY)(m:Nat):BC prog 230 #[.agg x.Ao5,I5 m] [[(m,.cells (q.GO c y E o n) 262 (0,0))]] (.bool (Ka c x)):=by
 refine Se func230 ntmps230 [0,1] ?_;intro u R;refine A1<|Ze (Bx #[_,_,_,_,_])<|AF fun G=>A3 Y<|A1<|Zh 0 Ds V rfl A5 Y<|Zl AE Y<|Zh 7 E7 V rfl C5 Y<|Zv (Aj (off:=0) B9 V rfl A5 Y)<|Zl AE Y<|Zv (Br Y Y)<|Zm Y<|Ai (t:=10) Y V (fun g=>?_) (fun g=>?_);·
  refine Yf 1 Ds V rfl A5 Y<|Yl AE Y<|Yf 7 E7 V rfl C5 Y<|Yg (Aj (off:=1) B9 V rfl A5 Y)<|Yl AE Y<|Yg (Br Y Y)<|Zv (AR Y Y)<|AH Y<|Zn [3] ?_;refine Zx<|AA<|AC V results230 Y (by exact ⟨by simp [Ka,g],V⟩)
 refine A7 Y V<|A7 Y V<|A7 Y V<|A7 Y V<|A7 Y V<|A7 Y V<|Zv (AL Y Y)<|AH Y<|Zn [3] ?_;refine Zx<|AA<|AC V results230 Y (by exact ⟨by simp [Ka,g],V⟩)
theorem WS(hv:Da A v rows)(hn:rows.length<=1000000000)(g:Nat)(us:List A4)(m:AY->Bool)(y:∀(args:AN) (w:A6),(callFunc g args).run prog w= .ok (.enter g args) w)(G:∀x:AY,BC prog g (.agg x.Ao5::us).toArray [B] (.bool (m x))):Bz prog 229 #[v,.func (.func g) #[] us.toArray] [A,B] (fun r H'=>∃s,BZ 5 98 r (rows.filter fun x=>!m x).length (Ac (rows.filter fun x=>!m x)) s/\H'=[s,A,B]):=by
 obtain ⟨p,cap,rfl,_⟩:=id hv;refine Se func229 ntmps229 [0,1] ?_;intro u R;refine A1<|A3 Y<|A1<|Zm Y<|Zc [_] Y call87 Y V (Iw hv A0) ?_;rintro _ _ ⟨_,⟨s1,E,rfl⟩,rfl⟩;obtain ⟨K,I,rfl⟩:=E.form;refine Zm Y<|Zc [_,_] Y call238 Y V (aO E hn g us m y G) ?_;rintro _ _ ⟨_,⟨s2,h2,rfl⟩,rfl⟩;obtain ⟨O,J,rfl⟩:=h2.form;refine A3 Y<|AA<|AC V results229 Y (by exact ⟨_,h2,V⟩)
theorem UO(E:BZ 5 98 v rows.length (Ac rows) s)(hn:rows.length<=1000000000)(y:AY)(g:Nat)(us:List A4)(G:AY->Bool)(O:∀(args:AN) (w:A6),(callFunc g args).run prog w= .ok (.enter g args) w)(hf:∀x:AY,BC prog g (.agg x.Ao5::us).toArray [B] (.bool (G x))):Bz prog 231 #[v,.agg y.Ao5,.func (.func g) #[] us.toArray] [s,B] (fun r H'=>∃W s2,BZ 5 98 r (RY G rows y).length (Ac (RY G rows y)) W/\H'=[W,s2,B]):=by
 have af:=mL;obtain ⟨p,cap,rfl⟩:=E.form;have hU:=D6 E A0
 refine Se func231 ntmps231 [0,1,2] ?_;intro u R;refine A1<|Ze (Bx #[_,_,_,_,_])<|AF fun bx=>A3 Y<|A1<|Zm Y<|Zm Y<|Xr [_,_] Y call107 Y V (TV hU g us G O hf) ?_;obtain ⟨z9,K⟩:∃z,z=Ra G rows:=⟨_,rfl⟩;rw [<-K];have m:=vC G rows
 rw [<-K]at m;refine A3 Y<|Zb [7,0,4] ?_;refine CL (e0:=[(7,_)]) (H0:=[]) (fun e H=>∃(i:Nat),(i<=rows.length/\(rows.findIdx? G).getD rows.length=i)/\e=[(7,I4 (i:Int))]/\H=[]) Wp ?hx_1 ?hy_1
 case hx_1=>
  refine A1<|Zm Y<|Zv (ET Y Y)<|AD<|Ak Y (fun J=>?_) (fun J=>?_);·
   refine Zg<|Zm Y<|Zv (AP B4 Y)<|AH Y<|Zn [7,0,4] ?_;refine Aq (e':=[(7,_)]) (by exact ⟨rows.length,⟨B8 _,by rcases m with⟨_,h⟩|⟨i,h1,h2,I⟩;exact h;omega⟩,rfl,rfl⟩)
  rcases m with⟨Z,_⟩|⟨i,h1,h2,I⟩
  · exact absurd Z J
  subst h2;refine AB<|Zn [7,0,4] ?_;refine Aq (e':=[(7,_)]) (by exact ⟨i,⟨h1,I⟩,V,V⟩)
 rintro _ _ ⟨i,⟨hi,U⟩,rfl,rfl⟩;refine A1<|Zm Y<|Zm Y<|Zo Wh (Pa #[_,_,_,_,_] C7 Ax Y)<|Ze (Af (vs:=[_]) (cs:=[_,_,_,_,_]) B4 Ax Dd Y V rfl V rfl V)<|AF fun X=>Zc [_,_,_] Y call239 Y V (ZH E hn i hi y X) ?_;rintro _ _ ⟨_,⟨s3,s4,I,rfl⟩,rfl⟩;obtain ⟨g3,c3,rfl⟩:=I.form;refine A3 Y<|AA<|AC rfl results231 Y (by exact ⟨_,s4,by unfold RY;rw [U];exact I,rfl⟩)
theorem Xa(q:QM)(G:0<=q.cl/\q.cl<=3)(c:Chg)(I:B7)(o n:Int)(y:AY)(g:Nat):Bz prog 232 #[.agg #[I4 q.kd,I4 q.tb,I4 q.cl,I4 q.lo,I4 q.hi,I4 q.bq,I4 q.ot,I4 c.t,I4 c.k,.bool c.had,I4 c.o.a,I4 c.o.b,I4 c.o.c,.bool c.has,I4 c.n.a,I4 c.n.b,I4 c.n.c,.pointer I,I5 g,I4 o,I4 n]] [[(g,.cells y.Ao5 98 (0,0))]] (fun r H'=>∃E m,r= .func (.func 240) #[] #[I5 E,I5 m]/\H'=[[(E,.cells #[I4 q.kd,I4 q.tb,I4 q.cl,I4 q.lo,I4 q.hi,I4 q.bq,I4 q.ot,I4 c.t,I4 c.k,.bool c.had,I4 c.o.a,I4 c.o.b,I4 c.o.c,.bool c.has,I4 c.n.a,I4 c.n.b,I4 c.n.c,.pointer I,I5 g,I4 o,I4 n] 262 (0,0))],[(m,.cells #[I4 (Bh y q.cl)] 3 (0,0))],[(g,.cells y.Ao5 98 (0,0))]]):=by
 refine Se func232 ntmps232 [0] ?_;intro u R;refine A1<|Ze (Ik Y (cs:=#[I4 q.kd,I4 q.tb,I4 q.cl,I4 q.lo,I4 q.hi,I4 q.bq,I4 q.ot,I4 c.t,I4 c.k,.bool c.had,I4 c.o.a,I4 c.o.b,I4 c.o.c,.bool c.has,I4 c.n.a,I4 c.n.b,I4 c.n.c,.pointer I,I5 g,I4 o,I4 n]) (Gd q c I (some ⟨g,0,none⟩) o n))<|AF fun E=>A3 Y<|Zq<|BJ (n:=10) (0::1::3::7::0::16::48::127::0::511::[]) 896 AG AG V<|A2 0 V (AV (off:=18) E7 V rfl L4 Y)<|B2 1 V N1 Y ?_;refine A2 2 V (EY Y V)<|Fc 3 V Wh (A9 (cs:=#[_,_,_,_,_]) C7 Ax Y B5 An) ?_;refine A2 4 V (AV (off:=0) E7 V rfl CM Y)<|A2 5 V (Aj (off:=2) CN V rfl A5 Y)<|B2 6 V AE Y ?_;refine Zz (l:=[7,8])<|BE [false,false,false] [] V rfl (Zu [_,_] Y Q2 Y V (GU y q.cl G)) ?_ (fun _ _ h=>h.elim) ?_;·
  rintro _ _ ⟨rfl,rfl⟩;refine BT<|Yw 8 511 V (Al HL #[_])<|AF fun m=>Yw 9 1023 V (Zs A5 Y Y V (hi:=by decide))<|C3<|Ao<|Zx<|A1<|Zv (Bt (vs:=[]) (us:=[_,_]) Y Y)<|AH Y<|Zn [2] ?_;refine Zx<|AA<|AC V results232 Y (by exact ⟨E,m,V,V⟩)
 refine BE [true,true,true] [(6,(_,_)),(3,(_,_)),(1,(_,_))] V rfl (Al HL #[_]) ?_ (fun _ _ h=>h.elim) Ay;rintro _ _ ⟨m,rfl,rfl⟩;refine BT<|Yw 7 511 V (Zu [_,_] Y Q2 Y V (GU y q.cl G))<|C3<|Yw 9 1023 V (Zs A5 Y Y V (hi:=by decide))<|C3<|Ao<|Zx<|A1<|Zv (Bt (vs:=[]) (us:=[_,_]) Y Y)<|AH Y<|Zn [2] ?_;refine Zx<|AA<|AC V results232 Y (by exact ⟨E,m,V,V⟩)
theorem lT(q:QM)(m:0<=q.cl/\q.cl<=3)(c:Chg)(J:B7)(o n:Int)(y:AY)(E G I:Nat)(x:AY):BC prog 240 #[.agg x.Ao5,I5 G,I5 I] [[(G,.cells #[I4 q.kd,I4 q.tb,I4 q.cl,I4 q.lo,I4 q.hi,I4 q.bq,I4 q.ot,I4 c.t,I4 c.k,.bool c.had,I4 c.o.a,I4 c.o.b,I4 c.o.c,.bool c.has,I4 c.n.a,I4 c.n.b,I4 c.n.c,.pointer J,I5 E,I4 o,I4 n] 262 (0,0))],[(I,.cells #[I4 (Bh y q.cl)] 3 (0,0))],[(E,.cells y.Ao5 98 (0,0))]] (.bool (LW q y x)):=by
 refine Se func240 ntmps240 [0,1,2] ?_;intro u R;refine A1<|Ze (Bx #[_,_,_,_,_])<|AF fun K=>A3 Y<|A1<|Zo Wh (A9 (cs:=#[_,_,_,_,_]) C7 Ax Y B5 An)<|Zh 0 E7 V rfl CM Y<|Zv (Aj (off:=2) CN V rfl A5 Y)<|Zl AE Y<|Xr [_,_] Y Q2 Y V (GU x q.cl m)<|A3 Y<|Zq<|BJ (n:=19) (0::0::3::7::15::15::63::127::255::511::255::1279::3327::7423::15615::32767::65535::131071::262143::[]) 0 AG AG V<|A2 0 V (AJ Y)<|B2 1 V AE Y<|A2 2 V (EI Y Y)<|A2 3 V (AJ Y)<|Cc (t:=14) Y (fun g=>?_) (fun g=>?_);·
  rw [CA g];refine AW 4 V<|AW 5 V<|AW 6 V<|AW 7 V<|AW 8 V<|AW 9 V<|AW 10 V<|AW 11 V<|AW 12 V<|AW 13 V<|AW 14 V<|AW 15 V<|AW 16 V<|A2 17 V (AR Y Y)<|A2 18 V (BF Y)<|Ao<|Zn [4] ?_;refine Zx<|AA<|AC V results240 Y (by exact ⟨by simp [LW, *],V⟩)
 rw [Bm g];refine B1 4 V (AJ Y)<|D4 5 V Wh (Bj AE Y An)<|B1 6 V (Br Y Y)<|B1 7 V (AJ Y)<|Cc (t:=18) Y (fun h2=>?_) (fun h2=>?_);·
  rw [CA h2];refine B1 8 V (AV (off:=1) Ds V rfl A5 Y)<|D4 9 V Wh (Bj AE Y An)<|B1 10 V (AV (off:=18) E7 V rfl L4 Y)<|D4 11 V Wh (Bj N1 Y An)<|B1 12 V (EY Y V)<|B1 13 V (AV (off:=1) Ds V rfl A5 Y)<|D4 14 V Wh (Bj AE Y An)<|B1 15 V (EI Y Y)<|B1 16 V (AR Y Y)<|A2 17 V (AL Y Y)<|A2 18 V (BF Y)<|Ao<|Zn [4] ?_;refine Zx<|AA<|AC V results240 Y (by exact ⟨by simp [LW, *],V⟩)
 rw [Bm h2];refine AW 8 V<|AW 9 V<|AW 10 V<|AW 11 V<|AW 12 V<|AW 13 V<|AW 14 V<|AW 15 V<|B1 16 V (AL Y Y)<|A2 17 V (AL Y Y)<|A2 18 V (BF Y)<|Ao<|Zn [4] ?_;refine Zx<|AA<|AC V results240 Y (by exact ⟨by simp [LW, *],V⟩)
theorem RN(q:QM)(G:0<=q.cl/\q.cl<=3)(c:Chg)(I:B7)(o n:Int)(y:AY)(g:Nat):Bz prog 232 #[.agg #[I4 q.kd,I4 q.tb,I4 q.cl,I4 q.lo,I4 q.hi,I4 q.bq,I4 q.ot,I4 c.t,I4 c.k,.bool c.had,I4 c.o.a,I4 c.o.b,I4 c.o.c,.bool c.has,I4 c.n.a,I4 c.n.b,I4 c.n.c,.pointer I,I5 g,I4 o,I4 n]] [[(g,.cells y.Ao5 98 (0,0))]] (fun r H'=>∃m E,r= .func (.func 240) #[] ([I5 m,I5 E]:List A4).toArray/\H'=[[(m,.cells #[I4 q.kd,I4 q.tb,I4 q.cl,I4 q.lo,I4 q.hi,I4 q.bq,I4 q.ot,I4 c.t,I4 c.k,.bool c.had,I4 c.o.a,I4 c.o.b,I4 c.o.c,.bool c.has,I4 c.n.a,I4 c.n.b,I4 c.n.c,.pointer I,I5 g,I4 o,I4 n] 262 (0,0))]++[(E,.cells #[I4 (Bh y q.cl)] 3 (0,0))]++[(g,.cells y.Ao5 98 (0,0))]]):=by
 refine Dw (Xa q G c I o n y g) V ?_;rintro r H' ⟨m,E,rfl,rfl⟩;exact ⟨_,⟨m,E,V,V⟩,by simp⟩
theorem aW(q:QM)(G:0<=q.cl/\q.cl<=3)(c:Chg)(I:B7)(o n:Int)(y:AY)(g m E:Nat)(x:AY):BC prog 240 (.agg x.Ao5::([I5 m,I5 E]:List A4)).toArray [[(m,.cells #[I4 q.kd,I4 q.tb,I4 q.cl,I4 q.lo,I4 q.hi,I4 q.bq,I4 q.ot,I4 c.t,I4 c.k,.bool c.had,I4 c.o.a,I4 c.o.b,I4 c.o.c,.bool c.has,I4 c.n.a,I4 c.n.b,I4 c.n.c,.pointer I,I5 g,I4 o,I4 n] 262 (0,0))]++[(E,.cells #[I4 (Bh y q.cl)] 3 (0,0))]++[(g,.cells y.Ao5 98 (0,0))]] (.bool (LW q y x)):=by
 refine Dw (lT q G c I o n y g m E x) V ?_;rintro r H' ⟨rfl,rfl⟩;exact ⟨_,⟨V,V⟩,by simp⟩
variable{r:CP}{s2:List AU}
set_option maxHeartbeats 1000000 in
theorem bZ(q:QM)(c:Chg)(g m:B7)(o n:Int)(E:0<=q.cl/\q.cl<=3){rv:A4}{sr:List AU}(hr:BZ 5 98 rv r.rows.length (Ac r.rows) sr)(hn:r.rows.length<=100000000)(h2:JI m (afQ q c) s2):Bz prog 205 #[.agg (q.GO c g m o n),.agg #[rv,I4 r.val,.bool r.fnd]] [sr,s2] (fun w H'=>∃G s',w= .tuple #[.agg #[G,I4 r.val,.bool r.fnd],.bool true]/\BZ 5 98 G (EM q c r.rows).length (Ac (EM q c r.rows)) s'/\H'=[s']):=by
 have ax:=mL;obtain ⟨pv,cv,rfl⟩:=hr.form;have hU:=D6 hr A0
 have af:(r.rows.filter fun x=>!Ka c x).length<=r.rows.length:=SJ _ _;refine Se func205 ntmps205 [0,1] ?_;intro u R;refine A1<|Ze (Ik Y (cs:=(q.GO c g m o n)) (Gd q c g m o n))<|AF fun K=>Ze (Bx #[.slice pv r.rows.length cv,I4 r.val,.bool r.fnd])<|AF fun Z=>Ze (Al GW #[_,_,_])<|AF fun b3=>A3 Y<|A1<|Zh 0 Cp V rfl C4 Y<|Zl DO Y ?_;refine Zv (Bt (vs:=[]) (us:=[_]) Y Y)<|Zc [_,_] Y call229 Y V (WS (B:=[(K,.cells (q.GO c g m o n) 262 (0,0))]) hU A0 230 [I5 K] (Ka c) call230 (fun x=>jZ q c g m o n x K)) ?_;rintro _ _ ⟨_,⟨s3,O,rfl⟩,rfl⟩;obtain ⟨g3,c3,rfl⟩:=O.form;refine Zh 0 Cp V rfl C4 Y<|Xe (Zs C4 Y Y V (hi:=by(simp;done))) ?_;refine AD<|Zb [2,3,4] ?_;refine CL (e0:=[(2,_)]) (H0:=[[(Z,.cells #[.slice g3 (r.rows.filter fun x=>!Ka c x).length c3,I4 r.val,.bool r.fnd] 38 (0,0))],s3,s2]) (fun e H=>∃(w:A4) (I:List AU),(BZ 5 98 w (EM q c r.rows).length (Ac (EM q c r.rows)) I)/\e=[]/\H=[[(Z,.cells #[w,I4 r.val,.bool r.fnd] 38 (0,0))],I]) Wp ?hx_1 ?hy_1
 case hx_1=>
  refine A1<|Zh 18 E7 V rfl L4 Y<|Zl N1 Y ?_;refine Zv (GI S3 Y Y)<|AD<|Ad Y (fun U=>?_) (fun U=>?_);·
   obtain ⟨y,hy⟩:∃y,afQ q c=some y:=dy.1 (by rw [<-h2.some_];exact U);rw [hy]at h2;obtain ⟨J,rfl,rfl⟩:=h2;refine BJ (n:=11) (0::1::0::4::12::28::0::64::255::511::1023::[]) 1408 AG AG V<|A2 0 V (AV (off:=0) Cp V rfl C4 Y)<|B2 1 V DO Y ?_;refine A2 2 V (AV (off:=18) E7 V rfl L4 Y)<|B2 3 V N1 Y ?_;refine A2 4 V (EY Y V)<|Gf (b:=J) (x:= .cells y.Ao5 98 (0,0)) (D':=63) 5 V rfl V B3 (Pa y.Ao5 C7 Ax Y) ?_;refine Fc 6 V Wh (A9 Wr Ss Y B5 (by exact BA V)) ?_;refine Zz (l:=[7])<|BE [false,true,true,true] [(5,(_,_)),(3,(_,_)),(1,(_,_))] V rfl (Zw [_] Y call232 Y V (RN q E c g o n y J)) ?_ Co Ay;rintro _ _ ⟨_,⟨W,X,rfl,rfl⟩,rfl⟩;refine ⟨OL (by simp [*]) (Zk (Zk (Ae))),?_⟩;refine Zz (l:=[8])<|BE [false,false,false] [] V rfl (Zw [_,_,_] Y call231 Y V (UO O A0 y 240 [I5 W,I5 X] (LW q y) call240 (fun x=>aW q E c g o n y J W X x))) ?_ Co Ay;rintro _ _ ⟨_,⟨s5,s6,h5,rfl⟩,rfl⟩;refine ⟨Ae,?_⟩;obtain ⟨g5,c5,rfl⟩:=h5.form;refine A2 9 V (AV (off:=0) Cp V rfl C4 Y)<|Zz (l:=[10])<|BE [] [] V rfl (Zs C4 Y Y V (hi:=by(simp;done))) ?_ (fun _ _ h=>h.elim) Ay;rintro _ _ ⟨rfl,rfl⟩;refine BT<|Ao<|Zn [3,4] ?_;refine Aq (e':=[]) (by exact ⟨_,s5,by unfold EM;rw [hy];exact h5,rfl,rfl⟩)
  have hy:afQ q c=none:=by have h9:=h2.some_;rw [U]at h9;exact kc.1 (by rw [<-h9];decide)
  refine AB<|Zn [3,4] ?_;refine Aq (e':=[]) (by exact ⟨_,s3,by unfold EM;rw [hy];exact O,rfl,rfl⟩)
 rintro _ _ ⟨w,I,h4,rfl,rfl⟩;obtain ⟨p4,c4,rfl⟩:=h4.form;refine A1<|Zo Wh (A9 (cs:=#[_,_,_]) CC B6 Y B5 (by exact BA V)) ?_;refine Xe (BN B6 Y Y HU Wu (by exact DD rfl) Ek AK (by exact BU _)) ?_;refine A3 Y<|AA<|CJ V results205 Y Wh (Ar CC B6 Wn (V)) Y (by exact ⟨_,I,V,h4,V⟩)
theorem Yd(q:QM)(c:Chg)(G g:B7)(o n:Int)(I:B7)(E m:Nat)(hv:-4000000000000000000<=r.val/\r.val<=4000000000000000000):BC prog 207 #[.agg (q.GO c G g o n),.agg #[.slice I E m,I4 r.val,.bool r.fnd]] [] (.tuple #[.agg #[.slice I E m,I4 (if g.isSome then r.val+1 else r.val -1),.bool r.fnd],.bool true]):=by
 refine Se func207 ntmps207 [0,1] ?_;intro u R;refine A1<|Ze (Ik Y (cs:=(q.GO c G g o n)) (Gd q c G g o n))<|AF fun K=>Ze (Bx #[.slice I E m,I4 r.val,.bool r.fnd])<|AF fun O=>Ze (Al GW #[_,_,_])<|AF fun J=>A3 Y<|Zq<|A1<|Zh 18 E7 V rfl L4 Y<|Zl N1 Y ?_;refine Zv (GI S3 Y Y)<|AD<|Ad Y (fun y=>?_) (fun y=>?_);·
  refine Zg<|Zh 1 Cp V rfl A5 Y<|Zl AE Y ?_;refine Yi Y Y<|Zh 1 Cp V rfl A5 Y<|Xe (Zs A5 Y Y V (hi:=by(simp;done))) ?_;refine AD<|A1<|Zo Wh (A9 (cs:=#[_,_,_]) CC B6 Y B5 An) ?_;refine Xe (Xw B6 _) ?_;refine AH Y<|Zn [4,5] ?_;refine Zx<|AA<|CJ rfl results207 Y Wh (Ar CC B6 Wn (rfl)) Y (by exact ⟨by rw [y];rfl,rfl⟩)
 refine Zg<|Zh 1 Cp V rfl A5 Y<|Zl AE Y ?_
 (refine Ap (HV Y Y (IntWalk.i64_in _ ?_)) ?_;(focus (omega)))
 refine Zh 1 Cp V rfl A5 Y<|Xe (Zs A5 Y Y V (hi:=by(simp;done))) ?_;refine AD<|A1<|Zo Wh (A9 (cs:=#[_,_,_]) CC B6 Y B5 An) ?_;refine Xe (Xw B6 _) ?_;refine AH Y<|Zn [4,5] ?_;refine Zx<|AA<|CJ rfl results207 Y Wh (Ar CC B6 Wn (rfl)) Y (by exact ⟨by rw [y];rfl,rfl⟩)
theorem jW(q:QM)(c:Chg)(y E:B7)(o n:Int)(G:B7)(m g:Nat)(hv:-4000000000000000000<=r.val/\r.val<=4000000000000000000)(O:(-1000000000<=o/\o<=1000000000)/\-1000000000<=n/\n<=1000000000):BC prog 209 #[.agg (q.GO c y E o n),.agg #[.slice G m g,I4 r.val,.bool r.fnd]] [] (.tuple #[.agg #[.slice G m g,I4 (r.val+(n -o)),.bool r.fnd],.bool true]):=by
 refine Se func209 ntmps209 [0,1] ?_;intro u R;refine A1<|Ze (Ik Y (cs:=(q.GO c y E o n)) (Gd q c y E o n))<|AF fun J=>Ze (Bx #[.slice G m g,I4 r.val,.bool r.fnd])<|AF fun K=>Ze (Al GW #[_,_,_])<|AF fun I=>A3 Y<|A1<|Zh 1 Cp V rfl A5 Y<|Zl AE Y ?_;refine Zh 20 E7 V rfl A5 Y<|Zl AE Y ?_;refine Zh 19 E7 V rfl A5 Y<|Zl AE Y ?_
 (refine Ap (HV Y Y (IntWalk.i64_in _ ?_)) ?_;(focus (omega)))
 refine Yi Y Y<|Zh 1 Cp V rfl A5 Y<|Xe (Zs A5 Y Y V (hi:=by(simp;done))) ?_;refine Z0<|Zn [3,4] ?_;refine Zx<|A1<|Zo Wh (A9 (cs:=#[_,_,_]) CC B6 Y B5 An) ?_;refine Xe (Xw B6 _) ?_;refine A3 Y<|AA<|CJ V results209 Y Wh (Ar CC B6 Wn (V)) Y (by exact ⟨V,V⟩)
structure Be where
 l:AY
 r:AY
deriving DecidableEq
def Av(ps:List Be):List A4:=ps.flatMap fun p=>[I4 p.l.t,I4 p.l.k,I4 p.l.v.a,I4 p.l.v.b,I4 p.l.v.c,I4 p.r.t,I4 p.r.k,I4 p.r.v.a,I4 p.r.v.b,I4 p.r.v.c]
theorem DY(a b:List Be):Av (a++b)=Av a++Av b:=by unfold Av;rw [Ly]
theorem BM:∀(rs:List Be),(Av rs).length=rs.length*10
 |[]=>rfl
 |r::rs=>by
  have:=BM rs;unfold Av at*;rw [HF,zq,this,D3];simp;omega
theorem GG(rs:List Be)(k:Nat):(Av rs).take (k*10)=Av (rs.take k):=by
 rcases DP rs.length k with h|h
 · rw [HK (by rw [BM];omega),HK A0]
 · have e:Av rs=Av (rs.take k)++Av (rs.drop k):=by rw [<-DY,HW]
   rw [e,Hi (by rw [BM,zy];omega)]
theorem MX(rs:List Be)(k:Nat):(Av rs).drop (k*10)=Av (rs.drop k):=by
 rcases DP rs.length k with h|h
 · rw [P2 (by rw [BM];omega),P2 A0];rfl
 · have e:Av rs=Av (rs.take k)++Av (rs.drop k):=by rw [<-DY,HW]
   rw [e,S0 (by rw [BM,zy];omega)]
theorem F7(rs:List Be):∀u∈Av rs,u.oneCell'=true:=by
 intro u g;unfold Av at g;obtain ⟨r,_,h⟩:=N6.1 g;simp only [E4,Mu,N3]at h;rcases h with rfl|rfl|rfl|rfl|rfl|rfl|rfl|rfl|rfl|rfl<;>rfl
def U7(M:List AU)(v:A4)(rs:List Be):Prop:=∃p cap,v= .slice p rs.length cap/\(rs.length<=maxLen/\rs.length<=cap)/\∀(i:Nat) (x:Be),rs[i]?=some x->∃g off cur T zz,p=some ⟨g,off,none⟩/\(g,Obj.cells cur T zz)∈M/\off+i*10+10<=cur.size/\cur.extract (off+i*10) (off+i*10+10)=#[I4 x.l.t,I4 x.l.k,I4 x.l.v.a,I4 x.l.v.b,I4 x.l.v.c,I4 x.r.t,I4 x.r.k,I4 x.r.v.a,I4 x.r.v.b,I4 x.r.v.c]
variable{rs:List Be}
theorem O1{e:AM}(h:BZ 10 e v rs.length (Av rs) s)(hn:rs.length<=maxLen):U7 s v rs:=by
 obtain ⟨b,cap,rfl⟩:=h.form;refine ⟨b,cap,V,⟨hn,Ex h⟩,fun i x hx=>?_⟩;obtain ⟨g,y,cur,z,hv,rfl,E,m⟩:=Ir h i (zt.1 hx).1;injection hv with hv1 hv2 hv3
 refine ⟨g,0,cur,e,z,hv1,by simp,by omega,?_⟩;unfold Av at m;rw [Gq _ 10 (fun _=>rfl) rs i x hx]at m;rw [C6];exact MA.1 m
variable{k:Nat}
theorem Ry{r:Be}(h:rs[k]?=some r):Av rs=Av (rs.take k)++(Av [r]++Av (rs.drop (k+1))):=by
 rw [<-DY,<-DY];congr 1;obtain ⟨g,rfl⟩:=zt.1 h;rw [SD,<-RC g,HW]
theorem JP{r:Be}(h:rs[k]?=some r)(j:Nat)(g:j<10):(Av rs)[k*10+j]?=(Av [r])[j]?:=by
 have m:=(zt.1 h).1;have e:(Av (rs.take k)).length=k*10:=by rw [BM,zy];omega
 rw [Ry h,T0 A0,dt (by rw [e,BM];simp;omega),e,ep]
variable{n:Nat}
theorem Wl{p:B7}(h:U7 M (.slice p n cap) rs):GR M p (Av rs):=by
 obtain ⟨W,G,e,U,K⟩:=h;injection e with e1 e2 e3
 subst e1;intro j u I;have y:=(zt.1 I).1
 rw [BM]at y;obtain ⟨x,hx⟩:∃x,rs[j/10]?=some x:=⟨_,zn A0⟩;obtain ⟨g,off,cur,T,zz,rfl,O,E,m⟩:=K (j/10) x hx;refine ⟨g,off,cur,T,zz,V,O,?_⟩;have J:=PU m E (j%10) A0
 have h2:=JP hx (j%10) A0;rw [show j/10*10+j%10=j by omega,I]at h2;rw [show off+j=off+j/10*10+j%10 by omega,J,h2,<-HS];rfl
theorem X0(hv:U7 M v rs)(X:rs.length<=1000000000000):Bz prog 253 #[v] [M] (fun r H'=>∃sr,BZ 10 317 r rs.length (Av rs) sr/\H'=[sr,M]):=by
 have U:=mL;obtain ⟨p,cap,rfl,⟨Z,O⟩,K⟩:=id hv;have y:GR M p (Av rs):=Wl hv
 refine Se func253 ntmps253 [0] ?_;intro u R;refine A1<|A3 Y<|Zq<|A1<|Zm Y<|Zv (Gm G4 Y Y)<|AD<|Ad Y (fun I=>?_) (fun I=>?_);·
  have E:p=none:=by cases p with
   |none=>rfl
   |some x=>cases I
  have h0:rs=[]:=by
   cases rs with
   |nil=>rfl
   |cons x l=>obtain ⟨g,off,cur,T,zz,G,_⟩:=K 0 x rfl;rw [E]at G;cases G
  refine Zq<|Bl<|Zg<|A3 Y<|AA<|Zt<|AC rfl results253 Y (by exact ⟨[],by rw [h0];exact Ba 10 _,rfl⟩)
 refine AB<|Zx<|A1<|Ze (EN G4 Ge)<|AF fun J=>Zm Y<|Ze (Fs (by_:=80) (sz:=10) G4 (V:Tryz.prog.info? 317=some Tryz.t317) V rfl V rfl Y (EX 10 317 J 0 [] V AK) Y (y) (by exact BM _) AK Wo Wo (by exact F7 _) A0 A0) ?_;rintro _ _ ⟨W,m,rfl⟩;replace m:=BH m (C6 _) (L5 _);refine A3 Y<|AA<|AC V results253 Y (by exact ⟨_,m,V⟩)
def I7(pd:Be->Bool)(rows:List Be):Int:=(rows.findIdx? pd).elim (-1) fun i=>(i:Int)
variable{x:Be}
theorem kU{g:Be->Bool}{rows:List Be}(h:∀(j:Nat) (y:Be),j<i->rows[j]?=some y->g y=false)(hx:rows[i]?=some x)(E:g x=true):I7 g rows=(i:Int):=by
 obtain ⟨hi,rfl⟩:=zt.1 hx;unfold I7;rw [W1.2 ⟨hi,E,fun j m=>by simp [h j _ m (zn A0)]⟩];rfl
theorem kV{m:Be->Bool}{rows:List Be}(h:∀(j:Nat) (y:Be),j<rows.length->rows[j]?=some y->m y=false):I7 m rows=-1:=by
 unfold I7;rw [Ys.2 fun y hy=>by
  obtain ⟨j,g⟩:=H4 hy;exact h j y (zt.1 g).1 g]
 rfl
theorem TW(g:Be->Bool)(rows:List Be):(I7 g rows=-1/\∀y∈rows,g y=false)\/∃(i:Nat) (x:Be),I7 g rows=(i:Int)/\rows[i]?=some x/\g x=true/\∀(j:Nat) (y:Be),j<i->rows[j]?=some y->g y=false:=by
 unfold I7;cases h:rows.findIdx? g with
 |none=>exact .inl ⟨rfl,Ys.1 h⟩
 |some i=>
  obtain ⟨m,h2,E⟩:=W1.1 h;refine .inr ⟨i,_,V,zn m,h2,fun j y G hy=>?_⟩;obtain ⟨I,rfl⟩:=zt.1 hy;simpa using E j G
theorem jY(g:k<rs.length)(x:Be):(Av rs).take (k*10)++Av [x]++(Av rs).drop (k*10+(Av [x]).length)=Av (rs.set k x):=by
 rw [show k*10+(Av [x]).length=(k+1)*10 by rw [BM];simp;omega,GG,MX,<-DY,<-DY,dq,B0 g];simp
variable{cur:AN}
theorem Vx(g:CG cur 0 (Av rs))(hx:rs[k]?=some x):k*10+10<=cur.size/\cur.extract (0+k*10) (0+k*10+10)=(Av [x]).toArray:=by
 have K:=(zt.1 hx).1;have J:k*10+10<=cur.size:=by
  have G:=JP hx 9 AK;have I:=g.get (k*10+9) _ (G.trans An)
  have:=(Hc.1 I).1;omega
 refine ⟨J,?_⟩;apply MA.1;apply OK;intro j;rw [HS,Z1];split
 · rename_i hj
   have m:j<10:=by omega
   have y:=JP hx j m;obtain ⟨u,E⟩:∃u,(Av [x])[j]?=some u:=⟨_,zn (by rw [BM];simpa using m)⟩;rw [E]at y;have h2:=g.get _ _ y
   rw [C6]at h2;rw [C6,h2];exact E.symm
 · rw [Mb]
   show(Av [x]).length<=j;rw [BM];simp only [FF];omega
theorem M0{rows:List Be}{j:Nat}(f:Be->Bool)(hx:rows[j]?=some x):(rows.take (j+1)).filter f=(rows.take j).filter f++(if f x then [x]else []):=by
 rw [C8 hx,KB];congr 1;rw [fj,fp]
theorem Mw{rows:List Be}{f:Be->Bool}(h:∀(j:Nat) (y:Be),rows[j]?=some y->f y=true):rows.filter f=rows:=List.filter_eq_self.2 fun y hy=>by
 obtain ⟨j,g⟩:=H4 hy;exact h j y g
theorem Mr{rows:List Be}(hv:U7 A v rows)(E:Nat)(us:List A4)(W:Be->Bool)(O:∀(args:AN) (w:A6),(callFunc E args).run prog w= .ok (.enter E args) w)(hf:∀x:Be,BC prog E (.agg #[I4 x.l.t,I4 x.l.k,I4 x.l.v.a,I4 x.l.v.b,I4 x.l.v.c,I4 x.r.t,I4 x.r.k,I4 x.r.v.a,I4 x.r.v.b,I4 x.r.v.c]::us).toArray [B] (.bool (W x))):BC prog 244 #[v,.func (.func E) #[] us.toArray] [A,B] (I4 (I7 W rows)):=by
 have ax:=mL;obtain ⟨p,cap,rfl,⟨hl,af⟩,hg⟩:=id hv;refine Se func244 ntmps244 [0,1] ?_;intro u R;refine A1<|A3 Y<|Zq<|A1<|Zm Y<|Zv (AP G4 Y)<|Zm Y<|AD<|AX<|Zb [8,0,1,7] ?_;refine BB (e0:=[(8,_)]) (fun m e H=>∃(i:Nat),m=rows.length -i/\(i<=rows.length/\∀(j:Nat) (y:Be),j<i->rows[j]?=some y->W y=false)/\e=[(8,I4 (i:Int))]/\H=[]) (by exact ⟨0,V,⟨C2 _,fun j y h=>by omega⟩,V,V⟩) Wp ?_;rintro _ _ _ ⟨i,rfl,⟨hi,G⟩,rfl,rfl⟩;refine A1<|Zv (Au Y Y)<|AD<|Zq<|Ak Y (fun K=>?_) (fun K=>?_);·
  obtain ⟨x,hx⟩:∃x,rows[i]?=some x:=⟨_,zn K⟩;obtain ⟨g,off,cur,T,zz,rfl,U,X,J⟩:=hg i x hx;refine AB<|Zx<|Zq<|AX<|A1<|Zm Y<|A3 Y<|A1<|Zm Y<|Zm Y<|Zm Y<|Ap (AO G4 Ge Y Y A0)<|Ca (cs:=[(g,.cells cur T zz)]) (by simp [U]) (A9 (cs:=#[_,_,_,_,_,_,_,_,_,_]) isAgg317 Ge Y A0 J) V rfl<|Xr [_] Y (O) Y V (hf x)<|AD<|Ad Y (fun I=>?_) (fun I=>?_);·
   refine A1<|Zm Y<|A3 Y<|AA<|Ab<|Zt<|Zt<|Ab<|Zt<|AC V results244 Y (by exact ⟨congrArg (Value.int .i64) (kU G hx I).symm,V⟩)
  refine AB<|A8<|Zx<|Zg<|Ya (n:=1) Y Y<|Zm Y<|Z0<|Zn [8,0,1,7] ?_;refine AZ (e':=[(8,_)]) (by exact ⟨i+1,rfl,⟨by omega,fun j y h1 h2=>by rcases DP j i with h9|h9;exact G j y h9 h2;obtain rfl:j=i:=A0;rw [hx]at h2;injection h2 with h2;subst h2;exact I⟩,rfl,rfl⟩)
 have Z:i=rows.length:=by omega
 subst Z;refine Aw<|Zt<|Zt<|AQ<|Zx<|A1<|A3 Y<|AA<|AC V results244 Y (by exact ⟨congrArg (Value.int .i64) (kV G).symm,V⟩)
set_option maxHeartbeats 1000000 in
theorem XP{rows:List Be}(E:BZ 10 317 v rows.length (Av rows) s)(hn:rows.length<=1000000000)(I:Nat)(us:List A4)(O:Be->Bool)(ax:∀(args:AN) (w:A6),(callFunc I args).run prog w= .ok (.enter I args) w)(hf:∀x:Be,BC prog I (.agg #[I4 x.l.t,I4 x.l.k,I4 x.l.v.a,I4 x.l.v.b,I4 x.l.v.c,I4 x.r.t,I4 x.r.k,I4 x.r.v.a,I4 x.r.v.b,I4 x.r.v.c]::us).toArray [B] (.bool (O x))):Bz prog 252 #[v,.func (.func I) #[] us.toArray] [s,B] (fun r H'=>∃s',BZ 10 317 r (rows.filter fun x=>!O x).length (Av (rows.filter fun x=>!O x)) s'/\H'=[s',B]):=by
 have o9:=mL;obtain ⟨p,cap,rfl⟩:=E.form;have hU:=O1 E A0
 refine Se func252 ntmps252 [0,1] ?_;intro u R;refine A1<|A3 Y<|A1<|Zm Y<|Zm Y<|Xr [_,_] Y call244 Y V (Mr hU I us O ax hf) ?_;rcases TW O rows with⟨e9,U⟩|⟨k,x0,e9,hx0,hp0,hno⟩
 ·
  rw [e9];refine A3 Y<|Zq<|A1<|Zm Y<|Zv (Br Y Y)<|AD<|Ak Y (fun h1=>?_) (fun h1=>?_);·
   refine A1<|Zm Y<|A3 Y<|AA<|Zt<|AC rfl results252 Y (by exact ⟨_,BH E (congrArg List.length (Mw fun j y hy=>by rw [U y (Cd hy)];rfl).symm) (congrArg Av (Mw fun j y hy=>by rw [U y (Cd hy)];rfl).symm),rfl⟩)
  exact absurd V h1
 rw [e9];have o8:=(zt.1 hx0).1
 obtain ⟨g,gy,cur,z,gq,rfl,l8,kz⟩:=EE E A0;injection gq with hv1 hv2 hv3
 subst hv1 hv3;refine A3 Y<|Zq<|A1<|Zm Y<|Zv (Br Y Y)<|AD<|Ak Y (fun h2=>by omega)<|fun h2=>AB<|Zx<|Zq<|A1<|Zm Y<|Ya (n:=1) Y Y<|A3 Y<|AX<|Zb [5,6,0,1] ?_;refine BB (e0:=[(5,_),(6,_)]) (fun m e H=>∃(i j:Nat) (W:List Be) (cur:AN),m=rows.length -j/\((i<j/\j<=rows.length)/\W.length=rows.length/\BZ 10 317 (I6 g rows.length cap) rows.length (Av W) [(g,.cells cur 317 z)]/\W.take i=(rows.take j).filter (fun x=>!O x)/\∀t,j<=t->W[t]?=rows[t]?)/\e=[(5,I4 (i:Int)),(6,I4 (j:Int))]/\H=[[(g,.cells cur 317 z)]]) (by exact ⟨k,k+1,rows,cur,rfl,⟨⟨by omega,by omega⟩,rfl,E,by rw [M0 _ hx0,hp0];simp only [ON,Mn,Hb,H3];exact (Mw (fun j y hy=>by rw [Gk]at hy;split at hy;rw [hno j y dp hy];rfl;cases hy)).symm,fun t _=>rfl⟩,rfl,rfl⟩) Wp ?_;rintro _ _ _ ⟨i,j,W,cur,rfl,⟨mR,af,K,J,Z⟩,rfl,rfl⟩;obtain ⟨cu,bf,l9,kv,X⟩:=K9 K;refine Zq<|A1<|Zm Y<|Zm Y<|Zv (AP G4 Y)<|Zv (Au Y Y)<|AD<|Ak Y (fun cO=>?_) (fun cO=>?_);·
  obtain ⟨x,hx⟩:∃x,rows[j]?=some x:=⟨_,zn cO⟩;obtain ⟨lv,bn⟩:=Vx cu ((Z j (B8 _)).trans hx);refine AB<|Zx<|Zq<|AX<|A1<|Zm Y<|Zm Y<|Ap (AO G4 Ge Y Y A0)<|Zo Wh (A9 (cs:=#[_,_,_,_,_,_,_,_,_,_]) isAgg317 Ge Y A0 bn)<|Ze (Al cW #[_,_,_,_,_,_,_,_,_,_])<|AF fun bx=>Xe (Xw Ge #[I4 x.l.t,I4 x.l.k,I4 x.l.v.a,I4 x.l.v.b,I4 x.l.v.c,I4 x.r.t,I4 x.r.k,I4 x.r.v.a,I4 x.r.v.b,I4 x.r.v.c])<|AD<|A1<|Zm Y<|Zo Wh (A9 (cs:=#[_,_,_,_,_,_,_,_,_,_]) isAgg317 Ge Y B5 An)<|Xr [_] Y (ax) Y V (hf x)<|Zv (Cj Y)<|Z0<|Zn [0,1,5,6,7,29] ?_;refine Zx<|Ad Y (fun G=>?_) (fun G=>?_);·
   have G:O x=false:=by simpa using G
   have d9:=BH (xs':=Av (W.set i x)) (Eh (i:=0+i*10) (ys:=Av [x]) K (by rw [BM,BM,FF];omega)) rfl (by rw [C6];exact jY A0 x);refine A1<|Zm Y<|Zm Y<|Zo Wh (A9 (cs:=#[_,_,_,_,_,_,_,_,_,_]) isAgg317 Ge Y B5 An)<|Ap (AO G4 Ge Y Y A0)<|Xe (BN Ge Y Y HU Wu (by exact (rfl:_=FD cur (0+i*10) (Av [x]))) Ek A0 X)<|AD<|Zg<|Zm Y<|Ya (n:=1) Y Y<|AH Y<|A8<|Zx<|Zg<|Zm Y<|Ya (n:=1) Y Y<|AH Y<|Zn [5,6,0,1] ?_;refine AZ (e':=[(5,_),(6,_)]) (by exact ⟨i+1,j+1,W.set i x,_,rfl,⟨by omega,by rw [GS];exact af,d9,by rw [Y8 A0,J,M0 _ hx];simp [G],fun t ht=>by rw [List.getElem?_set_ne A0];exact Z t A0⟩,rfl,rfl⟩)
  have G:O x=true:=by simpa using G
  refine AB<|A8<|Zx<|Zg<|Zm Y<|Ya (n:=1) Y Y<|AH Y<|Zn [5,6,0,1] ?_;refine AZ (e':=[(5,_),(6,_)]) (by exact ⟨i,j+1,W,cur,rfl,⟨by omega,af,K,by rw [J,M0 _ hx];simp [G],fun t ht=>Z t A0⟩,rfl,rfl⟩)
 have ej:j=rows.length:=by omega
 subst ej;rw [G0]at J;have gm:(rows.filter fun x=>!O x).length=i:=by rw [<-J,zy];omega
 refine Aw<|Zt<|Zt<|AQ<|Zx<|A1<|Zm Y<|Zm Y<|Ap (Bn G4 Ge Y Y A0)<|Ze (Ob G4 (V:Tryz.prog.info? 317=some Tryz.t317) V rfl (by simp [Value.cells,Value.oneCell']) Y A0 bf X Wo) ?_;rintro _ _ rfl;have ek:=VD (Eh (i:=i*10) (ys:=(Builtin.zeroCells (Value.agg #[I4 0,I4 0,I4 0,I4 0,I4 0,I4 0,I4 0,I4 0,I4 0,I4 0]).cells (rows.length -i)).toList) K (by rw [RR,size_zeroCells,BM];show i*10+(rows.length -i)*10<=_;omega)) i A0
 refine AD<|A1<|Zm Y<|Zm Y<|Ap (Bc G4 Ge Y Y A0)<|A3 Y<|AA<|AC V results252 Y (by
  refine ⟨_,BH ek gm.symm ?_,V⟩;rw [D2,Hi (by rw [zy,BM];omega),GG,J])
theorem kR{A Y D:List A4}(g:A.length=(n+1)*10)(hi:i<=n)(y:Y.length=10)(m:D.length=(n -i)*10):(A.take (0+i*10)++Y++A.drop (0+i*10+Y.length)).take (0+(i+1)*10)++D++(A.take (0+i*10)++Y++A.drop (0+i*10+Y.length)).drop (0+(i+1)*10+D.length)=A.take (i*10)++Y++D:=by
 rw [C6,C6,Hi (by rw [zq,zy];omega),P2 (by simp only [zq,zy,C0];omega),H3]
theorem df{A Y D:List A4}(g:A.length=(n+1)*10)(hi:i<=n)(y:Y.length=10)(m:D.length=(n -i)*10):(A.take (0+(i+1)*10)++D++A.drop (0+(i+1)*10+D.length)).take (0+i*10)++Y++(A.take (0+(i+1)*10)++D++A.drop (0+(i+1)*10+D.length)).drop (0+i*10+Y.length)=A.take (i*10)++Y++D:=by
 rw [C6,C6,P2 (l:=A) A0,H3,W3 (by rw [zy];omega),SR,LO A0,S0 (by rw [zy];omega)]
theorem VA(rows:List Be)(i:Nat)(y:Be):(Av rows).take (i*10)++Av [y]++Av (rows.drop i)=Av (rows.take i++[y]++rows.drop i):=by
 rw [GG,DY,DY]
theorem RG{c:AN}{rows:List Be}(h:CG c 0 (Av rows))(i:Nat)(hi:i<=rows.length):CG c (0+i*10) (Av (rows.drop i)):=by
 have g:=JV h (i*10) ((rows.length -i)*10) (by rw [BM];omega);rw [MX,HK (by rw [BM,C0];omega)]at g;exact g
theorem aT{c:AN}{rows:List Be}(h:CG c 0 (Av rows))(i:Nat)(hi:i<=rows.length):CG c 0 (Av (rows.take i)):=by
 have g:=JV h 0 (i*10) (by rw [BM];omega);rw [NO,GG]at g;exact g
theorem TU(rows:List Be)(i:Nat)(hi:i<=rows.length)(y:Be):(rows.take i++[y]++rows.drop i).length=rows.length+1:=by
 simp only [zq,zy,C0,FF];omega
set_option maxHeartbeats 1000000 in
theorem XJ{rows:List Be}(m:BZ 10 317 v rows.length (Av rows) s)(hn:rows.length<=1000000000)(i:Nat)(hi:i<=rows.length)(y:Be)(O:Nat):Bz prog 254 #[v,I4 (i:Int),I6 O 1 1] [s,[(O,.cells #[I4 y.l.t,I4 y.l.k,I4 y.l.v.a,I4 y.l.v.b,I4 y.l.v.c,I4 y.r.t,I4 y.r.k,I4 y.r.v.a,I4 y.r.v.b,I4 y.r.v.c] 317 (0,0))]] (fun r H'=>∃s' s2,BZ 10 317 r (rows.take i++[y]++rows.drop i).length (Av (rows.take i++[y]++rows.drop i)) s'/\H'=[s',s2,[(O,.cells #[I4 y.l.t,I4 y.l.k,I4 y.l.v.a,I4 y.l.v.b,I4 y.l.v.c,I4 y.r.t,I4 y.r.k,I4 y.r.v.a,I4 y.r.v.b,I4 y.r.v.c] 317 (0,0))]]):=by
 have mR:=mL;obtain ⟨p,cap,rfl⟩:=m.form;have lv:=Ex m
 refine Se func254 ntmps254 [0,1,2] ?_;intro u R;refine A1<|A3 Y<|Zq<|Bl<|Zg<|Zm Y<|Zm Y<|Ap (Bn G4 Ge Y Y A0)<|AD<|A1<|Zm Y<|Zv (AP G4 Y)<|A3 Y<|Zq<|A1<|Zm Y<|Zv (Bb (n:=0) Y Y)<|AD<|Ak Y (fun h0=>by cases h0)<|fun h0=>AB<|Zx<|A1<|Zm Y<|Zv (AP G4 Y)<|A3 Y<|Zq<|A1<|Zm Y<|Zm Y<|Zv (Bb Y Y)<|Z0<|Zn [0,1,2,7,8,22] ?_;refine Zx<|Ak Y (fun U=>?_) (fun U=>?_);·
  refine A1<|Zm Y<|Zm Y<|Ze (BR (by_:=80) (sz:=10) G4 (V:Tryz.prog.info? 317=some Tryz.t317) V rfl V rfl Y (m) Y (Dy 10 O 1 1 317 (0,0) (Av [y]) V) Wo Wo (by exact F7 _) A0 A0) ?_;rintro _ _ ⟨o8,K,rfl⟩;obtain ⟨kz,kv,rfl⟩:=K.form;refine A3 Y<|AA<|Zt<|AC V results254 Y (by
   have U:i=rows.length:=by omega
   subst U;exact ⟨_,[],BH K (TU rows _ (B8 _) y).symm (by rw [G0,jx,H3,DY]),rfl⟩)
 obtain ⟨g,cu,cur,z,bf,rfl,gy,G⟩:=EE m A0;injection bf with hv1 hv2 hv3
 subst hv1 hv3;obtain ⟨_,l9,_,l8,X⟩:=K9 m;refine AB<|Zx<|Zq<|A1<|Zm Y<|Zm Y<|Ya Y Y<|Zm Y<|Zv (R9 G4 Y)<|Zv (CO Y Y)<|AD<|Ak Y (fun hg=>?_) (fun hg=>?_);·
  refine A1<|Zm Y<|Zm Y<|Ap (Bc G4 Ge Y Y A0)<|Zm Y<|Zm Y<|Ya Y Y<|Zm Y<|Yb Y Y ?_;refine Ze (MJ (by_:=80) (sz:=10) (xs:=Av (rows.take i)) G4 F0 (rfl:Tryz.prog.info? 317=some Tryz.t317) rfl rfl rfl rfl Y Y Wh (aT G i hi) (by rw [BM,zy];omega) A0 AK A0 A0 A0) ?_;rintro _ _ ⟨s9,I,rfl⟩;rw [show i+(rows.length+1 -i)=rows.length+1 by omega]at I;have E:=I.1
  obtain ⟨g3,bn,cO,z3,rfl,rfl,gq,gm⟩:=EE I A0;obtain ⟨_,ek,_,d9,J⟩:=K9 I;refine AH Y<|Zn [0,1,2,7,9] ?_;refine Zx<|A1<|Zm Y<|Zm Y ?_
  (refine Ap (Bw G4 Ge Y Y ?_ ?_) ?_;(focus (omega));(focus (omega)))
  refine Zm Y<|Xe (Jz (cs:=Av [y]) G4 Ge Y Y Wh Wo ((rfl:CG (#[I4 y.l.t,I4 y.l.k,I4 y.l.v.a,I4 y.l.v.b,I4 y.l.v.c,I4 y.r.t,I4 y.r.k,I4 y.r.v.a,I4 y.r.v.b,I4 y.r.v.c]:AN) 0 (Av [y]))) (by rw [BM,FF];omega) (by rw [BM,FF];omega) (J) (F7 _)) ?_;refine AD<|Zq<|BJ (n:=9) (0::0::0::6::15::0::0::96::255::[]) 256 AG AG V<|A2 0 V (AJ Y)<|A2 1 V (AJ Y)<|A2 2 V (AJ Y)<|A2 3 V (Bp Y Y A0) ?_
  (refine Bq (D':=31) 4 (Bw G4 Ge Y Y ?_ ?_) ?_;(focus (omega));(focus (omega)))
  refine A2 5 V (AJ Y)<|A2 6 V (AJ Y) ?_
  (refine Bq (D':=255) 7 (Bw G4 Ge Y Y ?_ ?_) ?_;(focus (omega));(focus (omega)))
  refine Yw 8 511 rfl (Jz (cs:=Av (rows.drop i)) G4 Ge Y Y Wh Wo (RG G i hi) (by rw [BM,C0];omega) (by rw [BM,C0,Gh (by rw [BM,FF];omega)];omega) (by rw [Gh (by rw [BM,FF];omega)];exact J) (F7 _))<|C3<|Ao<|Zn [9] ?_;refine Zx<|A1<|Zm Y<|A3 Y<|AA<|Zt<|AC V results254 Y (by
   refine ⟨_,[(g,.cells cur 317 z)],BH (Eh (i:=0+(i+1)*10) (ys:=Av (rows.drop i)) (Eh (i:=0+i*10) (ys:=Av [y]) I (by rw [E,BM,FF];omega)) ?_) (TU rows i hi y).symm ?_,rfl⟩;· simp only [zq,zy,C0,E,BM,FF];omega
   · rw [kR E hi (by rw [BM];rfl) (by rw [BM,C0]),Hi (by rw [BM,zy];omega),<-GG,VA])
 refine AB<|Zx<|Zq ?_;obtain ⟨o9,ax,af⟩:=VC m (rows.length+1) A0 A0;have E:=af.1
 refine Zg<|Zm Y<|Zm Y<|Zm Y<|Ya Y Y ?_;refine Ap (Bc G4 Ge Y Y A0)<|A3 Y<|Zq<|Zq<|wM (s1:=[(O,_)]) (s2:=[(g,_)]) (a:=O) (b:=g) Wo Wo (D0.2 V) (D0.2 V) (fun Z=>?_);refine Zg<|Zm Y<|Zm Y<|Zm Y<|Zm Y<|Ya Y Y ?_
 (refine Ap (Bw G4 Ge Y Y ?_ ?_) ?_;(focus (omega));(focus (omega)))
 refine Ca (cs:=[(O,.cells #[I4 y.l.t,I4 y.l.k,I4 y.l.v.a,I4 y.l.v.b,I4 y.l.v.c,I4 y.r.t,I4 y.r.k,I4 y.r.v.a,I4 y.r.v.b,I4 y.r.v.c] 317 (0,0)),(g,.cells cur 317 z)]) B3 (T9 (tR:=4) func256 AG AG AG AG G4 Ge Y Z A0) V rfl ?_;refine Zv (Cj Y)<|Z0<|Zn [0,1,2,7,8,68] ?_;refine Zx<|Ad Y (fun W=>?_) (fun W=>?_);·
  refine Zq<|BJ (n:=9) (0::0::0::6::15::0::0::96::255::[]) 256 AG AG V<|A2 0 V (AJ Y)<|A2 1 V (AJ Y)<|A2 2 V (AJ Y)<|A2 3 V (Bp Y Y A0) ?_
  (refine Bq (D':=31) 4 (Bw G4 Ge Y Y ?_ ?_) ?_;(focus (omega));(focus (omega)))
  refine A2 5 V (AJ Y)<|A2 6 V (AJ Y) ?_
  (refine Bq (D':=255) 7 (Bw G4 Ge Y Y ?_ ?_) ?_;(focus (omega));(focus (omega)))
  refine Yw 8 511 rfl (Jz (cs:=Av (rows.drop i)) G4 Ge Y Y Wh Wo (RG G i hi) (by rw [BM,C0];omega) (by rw [BM,C0];omega) (X) (F7 _))<|C3<|Ao<|Zx<|A1<|Zm Y<|Zm Y ?_
  (refine Ap (Bw G4 Ge Y Y ?_ ?_) ?_;(focus (omega));(focus (omega)))
  refine Zm Y<|Xe (Jz (cs:=Av [y]) G4 Ge Y Y Wh Wo ((rfl:CG (#[I4 y.l.t,I4 y.l.k,I4 y.l.v.a,I4 y.l.v.b,I4 y.l.v.c,I4 y.r.t,I4 y.r.k,I4 y.r.v.a,I4 y.r.v.b,I4 y.r.v.c]:AN) 0 (Av [y]))) (by rw [BM,FF];omega) (by rw [BM,FF,Gh (by rw [BM,C0];omega)];omega) (by rw [Gh (by rw [BM,C0];omega)];exact X) (F7 _)) ?_;refine Z0<|Zn [0] ?_;refine Zx<|A1<|Zm Y<|A3 Y<|AA<|Zt<|AC V results254 Y (by
   refine ⟨_,[],BH (Eh (i:=0+i*10) (ys:=Av [y]) (Eh (i:=0+(i+1)*10) (ys:=Av (rows.drop i)) af (by rw [E,BM,C0];omega)) ?_) (TU rows i hi y).symm ?_,rfl⟩;· simp only [zq,zy,C0,BM,ax,FF];omega
   · rw [df E hi (by rw [BM];rfl) (by rw [BM,C0]),W3 (by rw [BM];omega),VA])
 cases W
def PQ(pd:Be->Bool)(rows:List Be)(y:Be):List Be:=rows.take ((rows.findIdx? pd).getD rows.length)++[y]++rows.drop ((rows.findIdx? pd).getD rows.length)
theorem kS(g:Be->Bool)(rows:List Be)(y:Be):(PQ g rows y).length=rows.length+1:=by
 unfold PQ;simp only [zq,zy,C0,FF];omega
theorem qK(g:Be->Bool)(rows:List Be):(I7 g rows<0/\(rows.findIdx? g).getD rows.length=rows.length)\/∃i:Nat,i<=rows.length/\I7 g rows=(i:Int)/\(rows.findIdx? g).getD rows.length=i:=by
 unfold I7;cases h:rows.findIdx? g with
 |none=>exact .inl ⟨by simp,rfl⟩
 |some i=>
  obtain ⟨m,_,_⟩:=W1.1 h;exact .inr ⟨i,by omega,V,V⟩
theorem Nb{rows:List Be}(hv:U7 A v rows)(hn:rows.length<=1000000000)(g:Nat)(us:List A4)(m:Be->Bool)(y:∀(args:AN) (w:A6),(callFunc g args).run prog w= .ok (.enter g args) w)(G:∀x:Be,BC prog g (.agg #[I4 x.l.t,I4 x.l.k,I4 x.l.v.a,I4 x.l.v.b,I4 x.l.v.c,I4 x.r.t,I4 x.r.k,I4 x.r.v.a,I4 x.r.v.b,I4 x.r.v.c]::us).toArray [B] (.bool (m x))):Bz prog 241 #[v,.func (.func g) #[] us.toArray] [A,B] (fun r H'=>∃s,BZ 10 317 r (rows.filter fun x=>!m x).length (Av (rows.filter fun x=>!m x)) s/\H'=[s,A,B]):=by
 obtain ⟨p,cap,rfl,_⟩:=id hv;refine Se func241 ntmps241 [0,1] ?_;intro u R;refine A1<|A3 Y<|A1<|Zm Y<|Zc [_] Y call253 Y V (X0 hv A0) ?_;rintro _ _ ⟨_,⟨s1,E,rfl⟩,rfl⟩;obtain ⟨K,I,rfl⟩:=E.form;refine Zm Y<|Zc [_,_] Y call252 Y V (XP E hn g us m y G) ?_;rintro _ _ ⟨_,⟨s2,h2,rfl⟩,rfl⟩;obtain ⟨O,J,rfl⟩:=h2.form;refine A3 Y<|AA<|AC V results241 Y (by exact ⟨_,h2,V⟩)
theorem TT{rows:List Be}(E:BZ 10 317 v rows.length (Av rows) s)(hn:rows.length<=1000000000)(y:Be)(g:Nat)(us:List A4)(G:Be->Bool)(O:∀(args:AN) (w:A6),(callFunc g args).run prog w= .ok (.enter g args) w)(hf:∀x:Be,BC prog g (.agg #[I4 x.l.t,I4 x.l.k,I4 x.l.v.a,I4 x.l.v.b,I4 x.l.v.c,I4 x.r.t,I4 x.r.k,I4 x.r.v.a,I4 x.r.v.b,I4 x.r.v.c]::us).toArray [B] (.bool (G x))):Bz prog 246 #[v,.agg #[I4 y.l.t,I4 y.l.k,I4 y.l.v.a,I4 y.l.v.b,I4 y.l.v.c,I4 y.r.t,I4 y.r.k,I4 y.r.v.a,I4 y.r.v.b,I4 y.r.v.c],.func (.func g) #[] us.toArray] [s,B] (fun r H'=>∃W s2,BZ 10 317 r (PQ G rows y).length (Av (PQ G rows y)) W/\H'=[W,s2,B]):=by
 have af:=mL;obtain ⟨p,cap,rfl⟩:=E.form;have hU:=O1 E A0
 refine Se func246 ntmps246 [0,1,2] ?_;intro u R;refine A1<|Ze (Bx #[_,_,_,_,_,_,_,_,_,_])<|AF fun bx=>A3 Y<|A1<|Zm Y<|Zm Y<|Xr [_,_] Y call244 Y V (Mr hU g us G O hf) ?_;obtain ⟨z9,K⟩:∃z,z=I7 G rows:=⟨_,rfl⟩;rw [<-K];have m:=qK G rows
 rw [<-K]at m;refine A3 Y<|Zb [7,0,4] ?_;refine CL (e0:=[(7,_)]) (H0:=[]) (fun e H=>∃(i:Nat),(i<=rows.length/\(rows.findIdx? G).getD rows.length=i)/\e=[(7,I4 (i:Int))]/\H=[]) Wp ?hx_1 ?hy_1
 case hx_1=>
  refine A1<|Zm Y<|Zv (ET Y Y)<|AD<|Ak Y (fun J=>?_) (fun J=>?_);·
   refine Zg<|Zm Y<|Zv (AP G4 Y)<|AH Y<|Zn [7,0,4] ?_;refine Aq (e':=[(7,_)]) (by exact ⟨rows.length,⟨B8 _,by rcases m with⟨_,h⟩|⟨i,h1,h2,I⟩;exact h;omega⟩,rfl,rfl⟩)
  rcases m with⟨Z,_⟩|⟨i,h1,h2,I⟩
  · exact absurd Z J
  subst h2;refine AB<|Zn [7,0,4] ?_;refine Aq (e':=[(7,_)]) (by exact ⟨i,⟨h1,I⟩,V,V⟩)
 rintro _ _ ⟨i,⟨hi,U⟩,rfl,rfl⟩;refine A1<|Zm Y<|Zm Y<|Zo Wh (Pa #[_,_,_,_,_,_,_,_,_,_] isAgg317 Ge Y)<|Ze (Af (vs:=[_]) (cs:=[_,_,_,_,_,_,_,_,_,_]) G4 Ge cW Y V rfl V rfl V)<|AF fun X=>Zc [_,_,_] Y call254 Y V (XJ E hn i hi y X) ?_;rintro _ _ ⟨_,⟨s3,s4,I,rfl⟩,rfl⟩;obtain ⟨g3,c3,rfl⟩:=I.form;refine A3 Y<|AA<|AC rfl results246 Y (by exact ⟨_,s4,by unfold PQ;rw [U];exact I,rfl⟩)
def IA(k:Int)(p:Be):Bool:=decide (p.r.k=k)
def QX(k:Int)(p:Be):Bool:=decide (p.l.k=k)
def FI(rows:List AY):List Be:=(List.range (rows.length/2)).map fun k=>⟨rows.getD (2*k) AY.zero,rows.getD (2*k+1) AY.zero⟩
def Dt(ps:List Be):List AY:=ps.flatMap fun p=>[p.l,p.r]
def jnT(q:QM)(c:Chg)(ps:List Be):List Be×Bool:=
 if c.t=q.ot then
  (if c.has then(ps.map fun p=>if IA c.k p then⟨p.l,⟨c.t,c.k,c.n⟩⟩else p,c.had)else(ps.filter fun p=>!IA c.k p,c.had))
 else match afQ q c with
  |none=>(ps.filter fun p=>!QX c.k p,true)
  |some y=>if I7 (IA (mQ q (afQ q c))) ps<0 then(ps.filter fun p=>!QX c.k p,(bfQ q c).isSome&&decide (mQ q (bfQ q c)=mQ q (afQ q c)))
   else(PQ (fun p=>LW q y p.l) (ps.filter fun p=>!QX c.k p) ⟨y,(ps.getD (I7 (IA (mQ q (afQ q c))) ps).toNat ⟨AY.zero,AY.zero⟩).r⟩,true)
def DU(q:QM)(c:Chg)(r:CP):CP×Bool:=if q.tb=q.ot then(r,false)else(⟨Dt (jnT q c (FI r.rows)).1,r.val,r.fnd⟩,(jnT q c (FI r.rows)).2)
theorem Kv(rows:List AY):(FI rows).length=rows.length/2:=by unfold FI;rw [zu,eJ]
theorem oF{x y:AY}(hx:rows[2*k]?=some x)(hy:rows[2*k+1]?=some y):(FI rows)[k]?=some ⟨x,y⟩:=by
 have h:=(zt.1 hy).1;unfold FI;rw [FG,cH A0,L7,Lw,Lw,hx,hy];rfl
theorem Ih:∀ps:List Be,(Dt ps).length=2*ps.length
 |[]=>rfl
 |p::ps=>by
  have:=Ih ps;unfold Dt at*;rw [HF,zq,this,D3];simp;omega
variable{ps:List Be}{p:Be}
theorem SX(h:ps[k]?=some p):Dt (ps.take (k+1))=Dt (ps.take k)++[p.l,p.r]:=by
 unfold Dt;rw [C8 h,Ly,List.flatMap_singleton]
theorem iH(q:QM)(c:Chg)(ps:List Be):(jnT q c ps).1.length<=ps.length+1:=by
 have g:=SJ (fun p=>!IA c.k p) ps;have h2:=SJ (fun p=>!QX c.k p) ps
 unfold jnT;split
 · split
   · simp only [zu];omega
   · simp only;omega
 · split
   · simp only;omega
   · split
     · simp only;omega
     · simp only [kS];omega
theorem uw(q:QM)(c:Chg)(m y:B7)(o n:Int)(g:Nat)(x:Be):BC prog 242 #[.agg #[I4 x.l.t,I4 x.l.k,I4 x.l.v.a,I4 x.l.v.b,I4 x.l.v.c,I4 x.r.t,I4 x.r.k,I4 x.r.v.a,I4 x.r.v.b,I4 x.r.v.c],I5 g] [[(g,.cells (q.GO c m y o n) 262 (0,0))]] (.bool (IA c.k x)):=by
 refine Se func242 ntmps242 [0,1] ?_;intro u R;refine A1<|Ze (Bx #[I4 x.l.t,I4 x.l.k,I4 x.l.v.a,I4 x.l.v.b,I4 x.l.v.c,I4 x.r.t,I4 x.r.k,I4 x.r.v.a,I4 x.r.v.b,I4 x.r.v.c])<|AF fun E=>A3 Y<|A1<|Zh 5 S4 V rfl Ax Y<|Zv (Aj (off:=1) Ds V rfl A5 Y)<|Zl AE Y<|Zh 7 E7 V rfl C5 Y<|Zv (Aj (off:=1) B9 V rfl A5 Y)<|Zl AE Y<|Zv (Br Y Y)<|A3 Y<|AA<|AC V results242 Y (by exact ⟨V,V⟩)
theorem uu(q:QM)(c:Chg)(m y:B7)(o n:Int)(g:Nat)(x:Be):BC prog 243 #[.agg #[I4 x.l.t,I4 x.l.k,I4 x.l.v.a,I4 x.l.v.b,I4 x.l.v.c,I4 x.r.t,I4 x.r.k,I4 x.r.v.a,I4 x.r.v.b,I4 x.r.v.c],I5 g] [[(g,.cells (q.GO c m y o n) 262 (0,0))]] (.bool (QX c.k x)):=by
 refine Se func243 ntmps243 [0,1] ?_;intro u R;refine A1<|Ze (Bx #[I4 x.l.t,I4 x.l.k,I4 x.l.v.a,I4 x.l.v.b,I4 x.l.v.c,I4 x.r.t,I4 x.r.k,I4 x.r.v.a,I4 x.r.v.b,I4 x.r.v.c])<|AF fun E=>A3 Y<|A1<|Zh 0 S4 V rfl Ax Y<|Zv (Aj (off:=1) Ds V rfl A5 Y)<|Zl AE Y<|Zh 7 E7 V rfl C5 Y<|Zv (Aj (off:=1) B9 V rfl A5 Y)<|Zl AE Y<|Zv (Br Y Y)<|A3 Y<|AA<|AC V results243 Y (by exact ⟨V,V⟩)
theorem ut(q:QM)(c:Chg)(m y:B7)(o n:Int)(g:Nat)(x:Be):BC prog 245 #[.agg #[I4 x.l.t,I4 x.l.k,I4 x.l.v.a,I4 x.l.v.b,I4 x.l.v.c,I4 x.r.t,I4 x.r.k,I4 x.r.v.a,I4 x.r.v.b,I4 x.r.v.c],I5 g] [[(g,.cells (q.GO c m y o n) 262 (0,0))]] (.bool (IA n x)):=by
 refine Se func245 ntmps245 [0,1] ?_;intro u R;refine A1<|Ze (Bx #[I4 x.l.t,I4 x.l.k,I4 x.l.v.a,I4 x.l.v.b,I4 x.l.v.c,I4 x.r.t,I4 x.r.k,I4 x.r.v.a,I4 x.r.v.b,I4 x.r.v.c])<|AF fun E=>A3 Y<|A1<|Zh 5 S4 V rfl Ax Y<|Zv (Aj (off:=1) Ds V rfl A5 Y)<|Zl AE Y<|Zh 20 E7 V rfl A5 Y<|Zl AE Y<|Zv (Br Y Y)<|A3 Y<|AA<|AC V results245 Y (by exact ⟨V,V⟩)
theorem uq(g:Nat)(us:List A4)(E:AY->Bool)(m:∀(args:AN) (w:A6),(callFunc g args).run prog w= .ok (.enter g args) w)(G:∀x:AY,BC prog g (.agg x.Ao5::us).toArray [B] (.bool (E x)))(y:Nat)(x:Be):BC prog 247 #[.agg #[I4 x.l.t,I4 x.l.k,I4 x.l.v.a,I4 x.l.v.b,I4 x.l.v.c,I4 x.r.t,I4 x.r.k,I4 x.r.v.a,I4 x.r.v.b,I4 x.r.v.c],I5 y] [[(y,.cells #[.func (.func g) #[] us.toArray] 159 (0,0))],B] (.bool (E x.l)):=by
 refine Se func247 ntmps247 [0,1] ?_;intro u R;refine A1<|Ze (Bx #[I4 x.l.t,I4 x.l.k,I4 x.l.v.a,I4 x.l.v.b,I4 x.l.v.c,I4 x.r.t,I4 x.r.k,I4 x.r.v.a,I4 x.r.v.b,I4 x.r.v.c])<|AF fun I=>A3 Y<|A1<|Zl isAgg159 Y ?_;refine Zh 0 S4 V rfl Ax Y<|Zo Wh (A9 (cs:=x.l.Ao5) C7 Ax Y B5 An) ?_;refine Xr [_] Y (m) Y V (G x.l) ?_;refine A3 Y<|AA<|AC V results247 Y (by exact ⟨V,V⟩)
theorem jX(y:ps[k]?=some p)(x:AY):(Av ps).take (0+k*10+5)++Ac [x]++(Av ps).drop (0+k*10+5+(Ac [x]).length)=Av (ps.set k ⟨p.l,x⟩):=by
 have J:=(zt.1 y).1;have e:(Av (ps.take k)).length=k*10:=by rw [BM,zy];omega
 have I:Av [p]=Ac [p.l]++Ac [p.r]:=rfl;have g:∀r:AY,(Ac [r]).length=5:=fun r=>rfl
 have E:Av ps=(Av (ps.take k)++Ac [p.l])++(Ac [p.r]++Av (ps.drop (k+1))):=by
  rw [Ry y,I];simp
 have m:(Av (ps.take k)++Ac [p.l]).length=0+k*10+5:=by rw [zq,e,g];omega
 rw [E,Hi m,g,<-ab,S0 m,S0 (g p.r),dq,B0 J];have G:Av (ps.take k++⟨p.l,x⟩::ps.drop (k+1))=Av (ps.take k)++(Av [⟨p.l,x⟩]++Av (ps.drop (k+1))):=by
  rw [<-DY,<-DY];rfl
 rw [G,show Av [⟨p.l,x⟩]=Ac [p.l]++Ac [x] from rfl];simp
theorem Qr(y:CG cur 0 (Av ps))(K:ps[k]?=some p):cur[0+k*10+5+1]?=some (I4 p.r.k)/\0+k*10+5+5<=cur.size/\cur.extract (0+k*10+5) (0+k*10+5+5)=p.r.Ao5:=by
 have g:∀j u,j<10->(Av [p])[j]?=some u->cur[k*10+j]?=some u:=fun j u G m=>by
  have:=y.get (k*10+j) u ((JP K j G).trans m);rwa [C6]at this
 have I:=g 6 _ AK rfl;have J:=g 9 _ AK rfl
 have O:k*10+9<cur.size:=(Hc.1 J).1;refine ⟨by rw [show 0+k*10+5+1=k*10+6 by omega];exact I,by omega,?_⟩;apply MA.1;apply OK;intro j;rw [HS,Z1];split
 · rename_i G
   have E:j<5:=by omega
   obtain ⟨u,m⟩:∃u,(Ac [p.r])[j]?=some u:=⟨_,zn (by rw [BG];simpa using E)⟩;have h2:=g (5+j) u A0 (by
    rw [show Av [p]=Ac [p.l]++Ac [p.r] from rfl,T0 (by rw [BG];simp),BG];rw [show 5+j - [p.l].length*5=j by simp];exact m)
   rw [show 0+k*10+5+j=k*10+(5+j) by omega,h2];exact m.symm
 · rw [Mb]
   show(Ac [p.r]).length<=j;rw [BG];simp only [FF];omega
def OG(c:Chg)(ps:List Be)(i:Nat):List Be:=(ps.take i).map (fun p=>if IA c.k p then⟨p.l,⟨c.t,c.k,c.n⟩⟩else p)++ps.drop i
theorem pF(c:Chg)(ps:List Be)(i:Nat)(hi:i<=ps.length):(OG c ps i).length=ps.length:=by
 unfold OG;simp only [zq,zu,zy,C0];omega
variable{c:Chg}
theorem XA(g:ps[i]?=some p):(OG c ps i)[i]?=some p:=by
 have hi:=(zt.1 g).1;unfold OG;rw [T0 (by rw [zu,zy];omega),zu,zy,LO A0,S1,Hh,OR,g]
theorem Vi(g:ps[i]?=some p):OG c ps (i+1)=(OG c ps i).set i (if IA c.k p then⟨p.l,⟨c.t,c.k,c.n⟩⟩else p):=by
 have hi:=(zt.1 g).1;have m:((ps.take i).map (fun p=>if IA c.k p then(⟨p.l,⟨c.t,c.k,c.n⟩⟩:Be)else p)).length=i:=by rw [zu,zy];omega
 unfold OG;rw [C8 g,Dg,eA (h:=by omega),m,S1];obtain ⟨_,rfl⟩:=zt.1 g;rw [RC hi,List.set_cons_zero];simp
theorem nH(g:ps[i]?=some p):ps.set i p=ps:=by
 obtain ⟨hi,rfl⟩:=zt.1 g;exact List.set_getElem_self hi
theorem xM(g:Nat)(us:List A4)(E:AY->Bool)(y:∀(args:AN) (w:A6),(callFunc g args).run prog w= .ok (.enter g args) w)(G:∀x:AY,BC prog g (.agg x.Ao5::us).toArray [B] (.bool (E x)))(m:Nat)(x:Be):BC prog 247 (.agg #[I4 x.l.t,I4 x.l.k,I4 x.l.v.a,I4 x.l.v.b,I4 x.l.v.c,I4 x.r.t,I4 x.r.k,I4 x.r.v.a,I4 x.r.v.b,I4 x.r.v.c]::([I5 m]:List A4)).toArray [[(m,.cells #[.func (.func g) #[] us.toArray] 159 (0,0))]++B] (.bool (E x.l)):=by
 refine Dw (uq g us E y G m x) B3 ?_;rintro r H' ⟨rfl,rfl⟩;exact ⟨_,⟨V,V⟩,by simp⟩
theorem XG{y E:B7}{g:Nat}{f:Be->Bool}{m:Nat}(h:∀x,BC prog m #[.agg #[I4 x.l.t,I4 x.l.k,I4 x.l.v.a,I4 x.l.v.b,I4 x.l.v.c,I4 x.r.t,I4 x.r.k,I4 x.r.v.a,I4 x.r.v.b,I4 x.r.v.c],I5 g] [[(g,.cells (q.GO c y E (mQ q (bfQ q c)) (mQ q (afQ q c))) 262 (0,0))]] (.bool (f x)))(x:Be):BC prog m (.agg #[I4 x.l.t,I4 x.l.k,I4 x.l.v.a,I4 x.l.v.b,I4 x.l.v.c,I4 x.r.t,I4 x.r.k,I4 x.r.v.a,I4 x.r.v.b,I4 x.r.v.c]::([I5 g]:List A4)).toArray [[(g,.cells (q.GO c y E (mQ q (bfQ q c)) (mQ q (afQ q c))) 262 (0,0))]] (.bool (f x)):=h x
theorem vD(h:c.has=true):Eo c c.has c.n=⟨c.t,c.k,c.n⟩:=by unfold Eo;rw [B0 h]
theorem pG(c:Chg)(ps:List Be):OG c ps ps.length=ps.map fun p=>if IA c.k p then⟨p.l,⟨c.t,c.k,c.n⟩⟩else p:=by unfold OG;rw [G0,jx,H3]
set_option maxHeartbeats 1000000 in
theorem dY(q:QM)(ek:0<=q.cl/\q.cl<=3)(c:Chg)(O Z:B7)(e1:O.isSome=(bfQ q c).isSome)(h2:JI Z (afQ q c) s2){sl:List AU}(hl:BZ 10 317 v ps.length (Av ps) sl)(hn:ps.length<=100000000):Bz prog 234 #[.agg (q.GO c O Z (mQ q (bfQ q c)) (mQ q (afQ q c))),v] [sl,s2] (fun w H'=>∃v' s',w= .tuple #[v',.bool (jnT q c ps).2]/\BZ 10 317 v' (jnT q c ps).1.length (Av (jnT q c ps).1) s'/\H'=[s']):=by
 have lv:=mL;obtain ⟨pl,ax,rfl⟩:=hl.form;have hU:=O1 hl A0
 have l9:(ps.filter fun p=>!QX c.k p).length<=ps.length:=SJ _ _;refine Se func234 ntmps234 [0,1] ?_;intro u R;refine A1<|Ze (Ik Y (cs:=(q.GO c O Z (mQ q (bfQ q c)) (mQ q (afQ q c)))) (Gd q c O Z (mQ q (bfQ q c)) (mQ q (afQ q c))))<|AF fun be=>Za Y<|A3 Y<|Zq<|A1<|Zh 7 E7 V rfl C5 Y<|Zv (Aj (off:=0) B9 V rfl A5 Y)<|Zl AE Y<|Zh 0 E7 V rfl CM Y<|Zv (Aj (off:=6) CN V rfl A5 Y)<|Zl AE Y<|Zv (Br Y Y)<|AD<|Ak Y (fun J=>?_) (fun J=>?_);·
  refine A1<|Zh 7 E7 V rfl C5 Y<|Zo Wh (A9 (cs:=c.Ao4) GC C5 Y B5 An)<|Xr [_] Y call76 Y V (SK c) ?_;obtain ⟨y9,cu⟩:∃y,y=Eo c c.has c.n:=⟨_,rfl⟩;rw [<-cu];refine Zm Y<|Zd Y V<|Zd Y V<|Ze (Al Dd #[_,_,_,_,_])<|AF fun l8=>Xe (Xw Ax y9.Ao5)<|AH Y<|Zn [1,2,6,7] ?_;refine Zx<|Zq<|A1<|Zm Y<|Zv (Cj Y)<|AD<|Ad Y (fun hh=>?_) (fun hh=>?_);·
   have af:c.has=false:=by simpa using hh
   refine Zq<|BJ (n:=8) (0::0::3::0::8::24::7::127::[]) 4 AG AG V<|A2 0 V (AJ Y)<|A2 1 V (Bt (vs:=[]) (us:=[_]) Y Y)<|A2 3 V (AV (off:=7) E7 V rfl C5 Y)<|A2 4 V (Aj (off:=2) B9 V rfl Cl Y)<|B2 5 V DH Y<|Zz (l:=[2])<|BE [true] [(5,(_,_))] V rfl (Zw [_,_] Y call241 Y V (Nb (B:=[(be,.cells (q.GO c O Z (mQ q (bfQ q c)) (mQ q (afQ q c))) 262 (0,0))]) hU A0 242 [I5 be] (IA c.k) call242 (XG fun x=>uw q c O Z (mQ q (bfQ q c)) (mQ q (afQ q c)) be x))) ?_ Co Ay;rintro _ _ ⟨_,⟨s9,h9,rfl⟩,rfl⟩;refine ⟨Zk (Ae),?_⟩;obtain ⟨g9,c9,rfl⟩:=h9.form;refine A2 6 V (BF Y)<|A2 7 V (BF Y)<|Ao<|Zx<|AA<|Zt<|Zt<|Dv V da Y Y (by
    have E:jnT q c ps=(ps.filter fun p=>!IA c.k p,c.had):=by unfold jnT;rw [B0 J,As (by rw [af];decide)]
    exact ⟨.slice g9 _ c9,s9,by rw [E],by rw [E];exact h9,rfl⟩)
  have af:c.has=true:=by simpa using hh
  rw [vD af]at cu;refine AB<|Zx<|Zq<|A1<|Zm Y<|Zv (AP G4 Y)<|Zm Y<|AD<|AX<|Zb [35,1,2,6,34] ?_;refine BB (e0:=[(35,_)]) (fun m e H=>∃(i:Nat) (sk:List AU),m=ps.length -i/\(i<=ps.length/\BZ 10 317 (.slice pl ps.length ax) ps.length (Av (OG c ps i)) sk)/\e=[(35,I4 (i:Int))]/\H=[sk]) (by exact ⟨0,sl,V,⟨C2 _,hl⟩,V,V⟩) Wp ?_;rintro _ _ _ ⟨i,sk,rfl,⟨hi,K⟩,rfl,rfl⟩;refine A1<|Zv (Au Y Y)<|AD<|Zq<|Ak Y (fun X=>?_) (fun X=>?_);·
   obtain ⟨p,hp⟩:∃p,ps[i]?=some p:=⟨_,zn X⟩;obtain ⟨g,d9,cur,z,bn,rfl,gy,W⟩:=EE K A0;injection bn with hv1 hv2 hv3
   subst hv1 hv3;obtain ⟨_,U,_,kz,gq⟩:=K9 K;obtain ⟨h6,kv,_⟩:=Qr W (XA hp);refine AB<|Zx<|Zq<|AX<|A1<|Zm Y<|A3 Y<|Zq<|BJ (n:=10) (0::0::3::7::15::31::0::64::192::511::[]) 0 AG AG V<|A2 0 V (AJ Y)<|A2 1 V (AJ Y)<|A2 2 V (AO G4 Ge Y Y A0)<|A2 3 V (Aj (off:=5) S4 V rfl Ax Y)<|A2 4 V (Aj (off:=1) Ds V rfl A5 Y)<|B2 5 V AE Y (hv:=by exact h6)<|A2 6 V (AV (off:=7) E7 V rfl C5 Y)<|A2 7 V (Aj (off:=1) B9 V rfl A5 Y)<|B2 8 V AE Y<|A2 9 V (Br Y Y)<|Ao<|Zn [1,2,6,8,34,35,47] ?_;refine Zx<|Ak Y (fun hk=>?_) (fun hk=>?_);·
    have e9:OG c ps (i+1)=(OG c ps i).set i ⟨p.l,y9⟩:=by rw [Vi hp,B0 (by unfold IA;simp [hk]),cu]
    have I:=BH (xs':=Av (OG c ps (i+1))) (Eh (i:=0+i*10+5) (ys:=Ac [y9]) K (by rw [BM,BG,FF,pF c ps i hi];omega)) rfl (by rw [e9];exact jX (XA hp) y9);refine Zg<|Zm Y<|Zm Y<|Zo Wh (A9 (cs:=y9.Ao5) C7 Ax Y B5 An)<|Ap (AO G4 Ge Y Y A0)<|Zv (Aj (off:=5) S4 rfl rfl Ax Y)<|Xe (BN Ax Y Y HU Wu (by exact (rfl:_=FD cur (0+i*10+5) (Ac [y9]))) Ek A0 gq)<|Z0<|A8<|Zx<|Zg<|Ya (n:=1) Y Y<|Zm Y<|Z0<|Zn [35,1,2,6,34] ?_;refine AZ (e':=[(35,_)]) (by exact ⟨i+1,_,V,⟨by omega,I⟩,V,V⟩)
   have e9:OG c ps (i+1)=OG c ps i:=by rw [Vi hp,As (by unfold IA;simp [hk]),nH (XA hp)]
   have I:=K;rw [<-e9]at I;refine AB<|A8<|Zx<|Zg<|Ya (n:=1) Y Y<|Zm Y<|Z0<|Zn [35,1,2,6,34] ?_;refine AZ (e':=[(35,_)]) (by exact ⟨i+1,_,V,⟨by omega,I⟩,V,V⟩)
  have ei:i=ps.length:=by omega
  subst ei;rw [pG]at K;refine Aw<|Zt<|Zt<|AQ<|Zx<|Zq<|BJ (n:=6) (0::0::2::6::1::31::[]) 0 AG AG V<|A2 0 V (AJ Y)<|A2 1 V (AV (off:=7) E7 V rfl C5 Y)<|A2 2 V (Aj (off:=2) B9 V rfl Cl Y)<|B2 3 V DH Y<|A2 4 V (BF Y)<|A2 5 V (BF Y)<|Ao<|Zx<|AA<|Zt<|Dv V da Y Y (by
   have E:jnT q c ps=(ps.map fun p=>if IA c.k p then⟨p.l,⟨c.t,c.k,c.n⟩⟩else p,c.had):=by unfold jnT;rw [B0 J,B0 af]
   exact ⟨.slice pl ps.length ax,sk,by rw [E],by rw [E];exact BH K (zu _).symm rfl,rfl⟩)
 refine AB<|Zx<|A1<|Zm Y<|Zv (Bt (vs:=[]) (us:=[_]) Y Y)<|Zc [_,_] Y call241 Y V (Nb (B:=[(be,.cells (q.GO c O Z (mQ q (bfQ q c)) (mQ q (afQ q c))) 262 (0,0))]) hU A0 243 [I5 be] (QX c.k) call243 (XG fun x=>uu q c O Z (mQ q (bfQ q c)) (mQ q (afQ q c)) be x)) ?_;rintro _ _ ⟨_,⟨s9,h9,rfl⟩,rfl⟩;obtain ⟨g9,c9,rfl⟩:=h9.form;refine AH Y<|Zn [1,2,9] ?_;refine Zx<|Zq<|A1<|Zh 18 E7 V rfl L4 Y<|Zl N1 Y<|Zv (OC S3 Y Y)<|AD<|Ad Y (fun bf=>?_) (fun bf=>?_);·
  have hy:afQ q c=none:=by have h8:=h2.some_;cases G:afQ q c with|none=>rfl|some y=>(rw [G]at h8;cases Z<;>simp at bf h8)
  refine A1<|Zm Y<|Za Y<|A3 Y<|AA<|Zt<|Dv V da Y Y (by
   have E:jnT q c ps=(ps.filter fun p=>!QX c.k p,true):=by unfold jnT;rw [As J,hy]
   exact ⟨.slice g9 _ c9,s9,by rw [E],by rw [E];exact h9,rfl⟩)
 obtain ⟨y,hy⟩:∃y,afQ q c=some y:=dy.1 (by rw [<-h2.some_];cases Z<;>simp at bf⊢);rw [hy]at h2;obtain ⟨b2,rfl,rfl⟩:=h2;refine AB<|Zx<|A1<|Zm Y<|Zv (Bt (vs:=[]) (us:=[_]) Y Y)<|Xr [_,_] Y call244 Y V (Mr (B:=[(be,.cells #[I4 q.kd,I4 q.tb,I4 q.cl,I4 q.lo,I4 q.hi,I4 q.bq,I4 q.ot,I4 c.t,I4 c.k,.bool c.had,I4 c.o.a,I4 c.o.b,I4 c.o.c,.bool c.has,I4 c.n.a,I4 c.n.b,I4 c.n.c,.pointer O,I5 b2,I4 (mQ q (bfQ q c)),I4 (mQ q (afQ q c))] 262 (0,0))]) hU 245 [I5 be] (IA (mQ q (afQ q c))) call245 (XG fun x=>ut q c O (some ⟨b2,0,none⟩) (mQ q (bfQ q c)) (mQ q (afQ q c)) be x)) ?_;have U:=TW (IA (mQ q (afQ q c))) ps
 obtain ⟨z9,cO⟩:∃z,z=I7 (IA (mQ q (afQ q c))) ps:=⟨_,rfl⟩;rw [<-cO]at U⊢;refine A3 Y<|Zq<|A1<|Zm Y<|Zv (ET Y Y)<|AD<|Ak Y (fun X=>?_) (fun X=>?_);·
  have E:jnT q c ps=(ps.filter fun p=>!QX c.k p,(bfQ q c).isSome&&decide (mQ q (bfQ q c)=mQ q (afQ q c))):=by unfold jnT;rw [As J];split;rename_i G;rw [hy]at G;cases G;rw [B0 (by rw [<-cO];exact X)]
  refine Zq<|BJ (n:=13) (0::0::2::6::14::30::62::30::158::510::1022::31::4095::[]) 0 AG AG V<|A2 0 V (AJ Y)<|A2 1 V (AV (off:=17) E7 V rfl L4 Y)<|B2 2 V N1 Y<|A2 3 V (GI S3 Y Y)<|A2 4 V (AJ Y)<|Ck (t:=74) Y (fun h1=>?_) (fun h1=>?_);·
   rw [h1];refine B1 5 V (AV (off:=19) E7 V rfl A5 Y)<|D4 6 V Wh (Bj AE Y An)<|B1 7 V (AV (off:=20) E7 V rfl A5 Y)<|D4 8 V Wh (Bj AE Y An)<|B1 9 V (Br Y Y)<|A2 10 V (AR Y Y)<|A2 11 V (BF Y)<|A2 12 V (BF Y)<|Ao<|Zn [4,5] ?_;refine Zx<|AA<|Zt<|Dv rfl da Y Y (by exact ⟨.slice g9 _ c9,s9,by rw [E,<-e1,h1];rfl,by rw [E];exact h9,rfl⟩)
  rw [h1];refine AW 5 V<|AW 6 V<|AW 7 V<|AW 8 V<|AW 9 V<|A2 10 V (AL Y Y)<|A2 11 V (BF Y)<|A2 12 V (BF Y)<|Ao<|Zn [4,5] ?_;refine Zx<|AA<|Zt<|Dv rfl da Y Y (by exact ⟨.slice g9 _ c9,s9,by rw [E,<-e1,h1];rfl,by rw [E];exact h9,rfl⟩)
 rcases U with⟨G,_⟩|⟨k,p,G,hp,_,_⟩
 · exact absurd G A0
 subst G;have E:jnT q c ps=((PQ (fun p=>LW q y p.l) (ps.filter fun p=>!QX c.k p) ⟨y,p.r⟩),true):=by
  unfold jnT;rw [As J];split;· rename_i G;rw [hy]at G;cases G
  · rename_i y0 G;rw [hy]at G;injection G with G;subst G;rw [<-cO,As A0,M1,Lw,hp];rfl
 have hk:=(zt.1 hp).1;obtain ⟨g,d9,cur,z,bn,rfl,gy,W⟩:=EE hl A0;injection bn with hv1 hv2 hv3
 subst hv1 hv3;obtain ⟨_,kv,gm⟩:=Qr W hp;refine AB<|Zx<|A1<|Zo Wh (A9 Wr Ss Y B5 (BA V))<|Zc [_] Y call232 Y V (RN q ek c O (mQ q (bfQ q c)) (mQ q (afQ q c)) y b2) ?_;rintro _ _ ⟨_,⟨b8,b9,rfl,rfl⟩,rfl⟩;refine Ze (Al zeroValue159 #[_])<|AF fun bb=>Xe (Zs sizeOf159 Y Y V (hc:=by exact (V:_=(#[.func (.func 240) #[] ([I5 b8,I5 b9]:List A4).toArray]:AN))) (hi:=by decide))<|Z0<|Zn [1,2,9,10,11] ?_;refine Zx<|Zq<|NZ (s1:=[(bb,_)]) (s2:=_++_++[(b2,_)]) Wo Wo ?_;refine BJ (n:=15) (0::0::2::6::14::0::0::96::224::480::1022::0::4095::8191::16383::[]) 4096 AG AG V<|A2 0 V (AJ Y)<|A2 1 V (AV (off:=18) E7 V rfl L4 Y)<|B2 2 V N1 Y<|A2 3 V (EY Y V)<|Gf (b:=b2) (x:= .cells y.Ao5 98 (0,0)) (D':=31) 4 V rfl V B3 (Pa y.Ao5 C7 Ax Y) ?_;refine A2 5 V (AJ Y)<|A2 6 V (AJ Y)<|A2 7 V (AO G4 Ge Y Y A0)<|A2 8 V (Aj (off:=5) S4 V rfl Ax Y)<|Fc 9 V Wh (A9 (cs:=p.r.Ao5) C7 Ax Y A0 gm)<|A2 10 V (BQ (vs:=[(0,.agg y.Ao5),(1,.agg p.r.Ao5)]) (cs:=#[I4 y.t,I4 y.k,I4 y.v.a,I4 y.v.b,I4 y.v.c,I4 p.r.t,I4 p.r.k,I4 p.r.v.a,I4 p.r.v.b,I4 p.r.v.c]) Y (Aa (pl:=#[(0,5),(5,5)]) cW S4 (fun _=>by kernel_rfl) AG))<|A2 11 V (Bt (vs:=[]) (us:=[_]) Y Y)<|Zz (l:=[12])<|BE [false,false,false] [] V rfl (Zw [_,_,_] Y call246 Y V (TT h9 A0 ⟨y,p.r⟩ 247 [I5 bb] (fun p=>LW q y p.l) call247 (fun x=>xM 240 ([I5 b8,I5 b9]:List A4) (LW q y) call240 (fun x=>aW q ek c O (mQ q (bfQ q c)) (mQ q (afQ q c)) y b2 b8 b9 x) bb x))) ?_ Co Ay;rintro _ _ ⟨_,⟨s5,s6,h5,rfl⟩,rfl⟩;refine ⟨Ae,?_⟩;obtain ⟨g5,c5,rfl⟩:=h5.form;refine A2 13 V (BF Y)<|A2 14 V (BF Y)<|Ao<|Zn [4,5] ?_;refine Zx<|AA<|Dv rfl da Y Y (by exact ⟨.slice g5 _ c5,s5,by rw [E],by rw [E];exact h5,rfl⟩)
theorem dG(q:QM)(c:Chg)(r:CP):(DU q c r).1.val=r.val:=by unfold DU;split<;>rfl
theorem dH(q:QM)(c:Chg)(r:CP):(DU q c r).1.rows.length<=r.rows.length+2:=by
 unfold DU;split;· exact cP _ _
 · show(Dt _).length<=_
   have h:=iH q c (FI r.rows);rw [Kv]at h;rw [Ih];omega
theorem iO{rs:List AY}{x:AY}(g:CG cur 0 (Ac rs))(hx:rs[k]?=some x):k*5+5<=cur.size/\cur.extract (0+k*5) (0+k*5+5)=x.Ao5:=ZX g hx
theorem qj(g:CG cur 0 (Av rs))(hx:rs[k]?=some x):k*10+10<=cur.size/\cur.extract (0+k*10) (0+k*10+10)=#[I4 x.l.t,I4 x.l.k,I4 x.l.v.a,I4 x.l.v.b,I4 x.l.v.c,I4 x.r.t,I4 x.r.k,I4 x.r.v.a,I4 x.r.v.b,I4 x.r.v.c]:=Vx g hx
set_option maxHeartbeats 1000000 in
theorem cZ(q:QM)(l9:0<=q.cl/\q.cl<=3)(c:Chg)(p1 p2:B7)(e1:p1.isSome=(bfQ q c).isSome)(h2:JI p2 (afQ q c) s2){rv:A4}{sr:List AU}(hr:BZ 5 98 rv r.rows.length (Ac r.rows) sr)(hn:r.rows.length<=100000000):Bz prog 216 #[.agg (q.GO c p1 p2 (mQ q (bfQ q c)) (mQ q (afQ q c))),.agg #[rv,I4 r.val,.bool r.fnd]] [sr,s2] (fun w H'=>∃kv s',w= .tuple #[.agg #[kv,I4 (DU q c r).1.val,.bool (DU q c r).1.fnd],.bool (DU q c r).2]/\BZ 5 98 kv (DU q c r).1.rows.length (Ac (DU q c r).1.rows) s'/\H'=[s']):=by
 have pg:=mL;obtain ⟨pv,cv,rfl⟩:=hr.form;refine Se func216 ntmps216 [0,1] ?_;intro u R;refine A1<|Ze (Ik Y (cs:=(q.GO c p1 p2 (mQ q (bfQ q c)) (mQ q (afQ q c)))) (Gd q c p1 p2 (mQ q (bfQ q c)) (mQ q (afQ q c))))<|AF fun be=>Ze (Bx #[.slice pv r.rows.length cv,I4 r.val,.bool r.fnd])<|AF fun br=>Ze (Al GW #[_,_,_])<|AF fun bo=>A3 Y<|Zq<|A1<|Zh 0 E7 V rfl CM Y<|Zv (Aj (off:=1) CN V rfl A5 Y)<|Zl AE Y ?_;refine Zh 0 E7 V rfl CM Y<|Zv (Aj (off:=6) CN V rfl A5 Y)<|Zl AE Y ?_;refine Zv (Br Y Y)<|AD<|Ak Y (fun X=>?_) (fun X=>?_);·
  refine A1<|Zo Wh (A9 (cs:=#[_,_,_]) CC B6 Y B5 An) ?_;refine Xe (Xw B6 _) ?_;refine AH Y<|Zn [4,5] ?_;refine Zx<|AA<|Zt<|CJ V results216 Y Wh (Ar CC B6 Wn (V)) Y (by
   have e8:DU q c r=(r,false):=by unfold DU;rw [B0 X]
   exact ⟨.slice pv r.rows.length cv,sr,by rw [e8];rfl,by rw [e8];exact hr,rfl⟩)
 refine AB<|Zx<|A1<|A3 Y<|Zq<|Zq<|Bl<|Zg<|AH Y<|Zn [2,3,4,6,7] ?_;refine Zx<|AX<|Zb [6,7,2,3,4] ?_;refine BB (e0:=[(6,_),(7,_)]) (fun m e H=>∃(k:Nat) (K:B7) (J:Nat) (W:List AU),m=r.rows.length -k/\(k<=r.rows.length/2/\BZ 10 317 (.slice K k J) k (Av ((FI r.rows).take k)) W)/\e=[(6,.slice K k J),(7,I4 ((2*k:Nat):Int))]/\H=[W]) (by exact ⟨0,none,0,[],V,⟨C2 _,Ba 10 _⟩,V,V⟩) Wp ?_;rintro _ _ _ ⟨k,K,J,W,rfl,⟨hk,G⟩,rfl,rfl⟩;refine Zq<|Zq<|Bl<|Zg<|Zm Y<|Ya (n:=1) Y Y<|Zh 0 Cp V rfl C4 Y<|Zl DO Y ?_;refine Zv (AP B4 Y)<|Zv (Au Y Y)<|AD<|Ak Y (fun I=>?_) (fun I=>?_);·
  obtain ⟨x,hx⟩:∃x,r.rows[2*k]?=some x:=⟨_,zn A0⟩;obtain ⟨y,hy⟩:∃y,r.rows[2*k+1]?=some y:=⟨_,zn A0⟩;obtain ⟨g,af,cur,z,Z,rfl,gm,E⟩:=EE hr A0;injection Z with hv1 hv2 hv3
  subst hv1 hv3;obtain ⟨p8,cO⟩:=iO E hx;obtain ⟨p9,d9⟩:=iO E hy;refine AB<|Zx<|Zq<|AX<|BJ (n:=16) (0::0::2::0::14::30::0::64::0::256::960::1984::4094::8190::16383::32767::[]) 24576 AG AG V<|A2 0 V (AJ Y)<|A2 1 V (AV (off:=0) Cp V rfl C4 Y)<|B2 2 V DO Y ?_;refine A2 3 V (AJ Y)<|A2 4 V (AO B4 Ax Y Y A0)<|Fc 5 V Wh (A9 (cs:=#[_,_,_,_,_]) C7 Ax Y A0 cO) ?_;refine A2 6 V (AV (off:=0) Cp V rfl C4 Y)<|B2 7 V DO Y ?_;refine A2 8 V (AJ Y)<|A2 9 V (Bp (n:=1) Y Y A0)<|A2 10 V (AO B4 Ax Y Y A0)<|Fc 11 V Wh (A9 (cs:=#[_,_,_,_,_]) C7 Ax Y A0 d9) ?_;refine A2 12 V (BQ (vs:=[(0,.agg x.Ao5),(1,.agg y.Ao5)]) (cs:=#[I4 x.t,I4 x.k,I4 x.v.a,I4 x.v.b,I4 x.v.c,I4 y.t,I4 y.k,I4 y.v.a,I4 y.v.b,I4 y.v.c]) Y (Aa (pl:=#[(0,5),(5,5)]) cW S4 (fun _=>by kernel_rfl) AG))<|Yw 13 16383 V (Af (vs:=[_]) (cs:=[_,_,_,_,_,_,_,_,_,_]) G4 Ge cW Y V rfl V rfl V)<|AF fun gp=>Yw 14 32767 V (BR (by_:=80) (sz:=10) G4 (V:Tryz.prog.info? 317=some Tryz.t317) V rfl V rfl Y (G) Y (Dy 10 gp 1 1 317 (0,0) (Av [⟨x,y⟩]) V) Wo Wo (by exact F7 _) A0 A0) ?_;rintro _ _ ⟨mR,O,rfl⟩;obtain ⟨l8,kz,rfl⟩:=O.form;refine A2 15 V (BF Y)<|Ao<|Zn [2,3,4,6,7] ?_;refine A8<|Zx<|Bl<|Zg<|Zm Y<|Ya (n:=2) Y Y<|AH Y<|Zn [6,7,2,3,4] ?_;refine AZ (e':=[(6,_),(7,_)]) (by exact ⟨k+1,l8,kz,mR,rfl,⟨by omega,BH O rfl (by rw [C8 (oF hx hy),DY])⟩,rfl,rfl⟩)
 have ek:k=(FI r.rows).length:=by rw [Kv];omega
 have gy:=BH G ek (by rw [ek,G0]);refine Aw<|Zt<|Zt<|AQ<|Zx<|A1<|Zo Wh (A9 Wr Ss Y B5 (BA V)) ?_;refine Zm Y<|Zc [_,_] Y call234 Y rfl (dY q l9 c p1 p2 e1 h2 gy (by rw [Kv];omega)) ?_;rintro _ _ ⟨_,⟨lv,s5,rfl,h5,rfl⟩,rfl⟩;have e8:DU q c r=(⟨Dt (jnT q c (FI r.rows)).1,r.val,r.fnd⟩,(jnT q c (FI r.rows)).2):=by unfold DU;rw [As X]
 have bn:=iH q c (FI r.rows);rw [Kv]at bn;obtain ⟨L,hL⟩:∃L,L=(jnT q c (FI r.rows)).1:=⟨_,rfl⟩;rw [<-hL]at h5 e8 bn;obtain ⟨g5,c5,rfl⟩:=h5.form;refine Zm Y<|Zd Y V<|Zd Y V<|Za Y<|AH Y<|Zn [3,4,6,8] ?_;refine Zx<|A1<|Zh 0 Cp V rfl C4 Y<|Xe (Zs C4 Y Y V (hc:=by exact (V:_=(#[.slice none 0 0,I4 r.val,.bool r.fnd]:AN))) (hi:=by(simp;done))) ?_;refine AD<|Zq<|Zq<|Bl<|Zg<|Zm Y<|Zv (AP G4 Y)<|Zm Y<|AD<|AX<|Zb [51,3,4,8,49,50] ?_;refine BB (e0:=[(51,_)]) (fun m e H=>∃(k:Nat) (K:B7) (J:Nat) (W:List AU),m=L.length -k/\(k<=L.length/\BZ 5 98 (.slice K (2*k) J) (2*k) (Ac (Dt (L.take k))) W)/\e=[(51,I4 (k:Int))]/\H=[[(br,.cells #[.slice K (2*k) J,I4 r.val,.bool r.fnd] 38 (0,0))],W]) (by exact ⟨0,none,0,[],V,⟨C2 _,Ba 5 _⟩,V,V⟩) Wp ?_;rintro _ _ _ ⟨k,K,J,W,rfl,⟨hk,G⟩,rfl,rfl⟩;refine Zq<|Bl<|Zg<|Zv (Au Y Y)<|AD<|Zq<|Ak Y (fun I=>?_) (fun I=>?_);·
  obtain ⟨p,hp⟩:∃p,L[k]?=some p:=⟨_,zn I⟩;obtain ⟨g,af,cur,z,Z,rfl,gm,E⟩:=EE h5 A0;injection Z with hv1 hv2 hv3
  subst hv1 hv3;obtain ⟨o9,cu⟩:=qj E hp;refine AB<|Zx<|Zq<|AX<|Zq<|Bl<|Zg<|Ap (AO G4 Ge Y Y A0)<|Zo Wh (A9 (cs:=#[_,_,_,_,_,_,_,_,_,_]) isAgg317 Ge Y A0 cu) ?_;refine Ze (Al cW #[_,_,_,_,_,_,_,_,_,_])<|AF fun bp=>Xe (Xw Ge #[I4 p.l.t,I4 p.l.k,I4 p.l.v.a,I4 p.l.v.b,I4 p.l.v.c,I4 p.r.t,I4 p.r.k,I4 p.r.v.a,I4 p.r.v.b,I4 p.r.v.c]) ?_;refine AD<|Zg<|Zh 0 Cp V rfl C4 Y<|Zl DO Y ?_;refine Zh 0 S4 V rfl Ax Y<|Zo Wh (A9 (cs:=#[_,_,_,_,_]) C7 Ax Y B5 An) ?_;refine Zh 5 S4 V rfl Ax Y<|Zo Wh (A9 (cs:=#[_,_,_,_,_]) C7 Ax Y B5 An) ?_;refine Ze (Af (vs:=[_,_]) (cs:=[_,_,_,_,_,_,_,_,_,_]) B4 Ax Dd Y V rfl V rfl V)<|AF fun gq=>Ze (BR (by_:=40) (sz:=5) B4 (V:Tryz.prog.info? 98=some Tryz.t98) V rfl V rfl Y (G) Y (Dy 5 gq 2 2 98 (0,0) (Ac [p.l,p.r]) V) Wo Wo (by exact CE _) A0 A0) ?_;rintro _ _ ⟨o8,U,rfl⟩;obtain ⟨bf,ax,rfl⟩:=U.form;refine Zh 0 Cp V rfl C4 Y<|Xe (Zs C4 Y Y V (hc:=by exact (V:_=(#[.slice bf (2*k+2) ax,I4 r.val,.bool r.fnd]:AN))) (hi:=by(simp;done))) ?_;refine Z0<|Zn [3,4,8,49,50,51] ?_;refine A8<|Zx<|Bl<|Zg<|Ya (n:=1) Y Y<|Zm Y<|Z0<|Zn [51,3,4,8,49,50] ?_;refine AZ (e':=[(51,_)]) (by exact ⟨k+1,bf,ax,o8,rfl,⟨by omega,BH U rfl (by rw [SX hp,Bf])⟩,rfl,rfl⟩)
 have ek:k=L.length:=by omega
 subst ek;rw [G0]at G;refine Aw<|Zt<|Zt<|AQ<|Zx<|A1<|Zo Wh (A9 (cs:=#[_,_,_]) CC B6 Y B5 An) ?_;refine Zm Y<|Xe (Xw B6 _) ?_;refine A3 Y<|AA<|CJ rfl results216 Y Wh (Ar CC B6 Wn (rfl)) Y (by exact ⟨.slice K (2*L.length) J,W,by rw [e8];rfl,by rw [e8];exact BH G (Ih L).symm rfl,rfl⟩)
end Go.Proofs.YtlkdhannldcfbaaGreatDoor
