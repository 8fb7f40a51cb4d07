/- predicate.without, inserted at pairs. -/
import Derived.Test.YtljkoipiekbijaaGreatDoorPq1
set_option linter.unusedVariables false
set_option linter.unusedSimpArgs false
namespace Go.Proofs.YtljkoipiekbijaaGreatDoor
open Go.Proofs.Tryz
open Go Go.RowKit Gw
set_option maxRecDepth 100000
attribute [local irreducible] Gw.At Gw.Nx Gw.Ops
def KZ(pd:BQ->Bool)(rows:List BQ)(y:BQ):List BQ:=rows.take ((rows.findIdx? pd).getD rows.length)++[y]++rows.drop ((rows.findIdx? pd).getD rows.length)
theorem QW(g:BQ->Bool)(rows:List BQ)(y:BQ):(KZ g rows y).length=rows.length+1:=by
 unfold KZ;simp only [C7,CI,D4,HI];omega
theorem ql(g:BQ->Bool)(rows:List BQ):(Gu g rows<0/\(rows.findIdx? g).getD rows.length=rows.length)\/∃i:Nat,i<=rows.length/\Gu g rows=(i:Int)/\(rows.findIdx? g).getD rows.length=i:=by
 unfold Gu;cases h:rows.findIdx? g with
 |none=>exact .inl ⟨by simp,rfl⟩
 |some i=>
  obtain ⟨m,_,_⟩:=Sp.1 h;exact .inr ⟨i,by omega,V,V⟩
variable{B:List AR}{v:A3}
theorem NW{A:List AR}{rows:List BQ}(hv:U6 A v rows)(hn:rows.length<=1000000000)(g:Nat)(us:List A3)(m:BQ->Bool)(z:∀(args:As) (w:AD),(callFunc g args).run prog w= .ok (.enter g args) w)(G:∀x:BQ,BB prog g (.agg #[I4 x.l.t,I4 x.l.k,I4 x.l.v.a,I4 x.l.v.b,I4 x.l.v.c,I4 x.r.t,I4 x.r.k,I4 x.r.v.a,I4 x.r.v.b,I4 x.r.v.c]::us).toArray [B] (.bool (m x))):CJ prog 266 #[v,.func (.func g) #[] us.toArray] [A,B] (fun r H'=>∃s,BS 10 315 r (rows.filter fun x=>!m x).length (BA (rows.filter fun x=>!m x)) s/\H'=[s,A,B]):=by
 obtain ⟨p,cap,rfl,_⟩:=id hv;refine Se func266 ntmps266 [0,1] ?_;intro u R;refine A2<|AF Y<|B7 Y<|Zc [_] Y call278 Y V (Wy hv A0) ?_;rintro _ _ ⟨_,⟨s1,E,rfl⟩,rfl⟩;obtain ⟨K,I,rfl⟩:=E.form;refine Zm Y<|Zc [_,_] Y call277 Y V (XP E hn g us m z G) ?_;rintro _ _ ⟨_,⟨s2,h2,rfl⟩,rfl⟩;obtain ⟨M,J,rfl⟩:=h2.form;refine AM Y<|AO V results266 Y (by exact ⟨_,h2,V⟩)
theorem TV{s:List AR}{rows:List BQ}(E:BS 10 315 v rows.length (BA rows) s)(hn:rows.length<=1000000000)(y:BQ)(g:Nat)(us:List A3)(G:BQ->Bool)(M:∀(args:As) (w:AD),(callFunc g args).run prog w= .ok (.enter g args) w)(hf:∀x:BQ,BB prog g (.agg #[I4 x.l.t,I4 x.l.k,I4 x.l.v.a,I4 x.l.v.b,I4 x.l.v.c,I4 x.r.t,I4 x.r.k,I4 x.r.v.a,I4 x.r.v.b,I4 x.r.v.c]::us).toArray [B] (.bool (G x))):CJ prog 271 #[v,.agg #[I4 y.l.t,I4 y.l.k,I4 y.l.v.a,I4 y.l.v.b,I4 y.l.v.c,I4 y.r.t,I4 y.r.k,I4 y.r.v.a,I4 y.r.v.b,I4 y.r.v.c],.func (.func g) #[] us.toArray] [s,B] (fun r H'=>∃U s2,BS 10 315 r (KZ G rows y).length (BA (KZ G rows y)) U/\H'=[U,s2,B]):=by
 have af:=mL;obtain ⟨p,cap,rfl⟩:=E.form;have Z:=O4 E A0
 refine Se func271 ntmps271 [0,1,2] ?_;intro u R;refine A2<|Ze (Bx #[_,_,_,_,_,_,_,_,_,_])<|AE fun bx=>AF Y<|A2<|Sk 2 V<|Xr [_,_] Y call269 Y V (Mo Z g us G M hf) ?_;obtain ⟨z9,K⟩:∃z,z=Gu G rows:=⟨_,rfl⟩;rw [<-K];have m:=ql G rows
 rw [<-K]at m;refine AF Y<|Zb [7,0,4] ?_;refine C9 (e0:=[(7,_)]) (H0:=[]) (fun e H=>∃(i:Nat),(i<=rows.length/\(rows.findIdx? G).getD rows.length=i)/\e=[(7,I4 (i:Int))]/\H=[]) Wp ?hx_1 ?hy_1
 case hx_1=>
  refine B7 Y<|Zv (Dq Y Y)<|A6<|Ad Y (fun J=>?_) (fun J=>?_);·
   refine Zg<|Zm Y<|Zv (AJ HP Y)<|AN Y<|FF (e:=[(7,_)]) (h:=by exact ⟨rows.length,⟨B4 _,by rcases m with⟨_,h⟩|⟨i,h1,h2,I⟩;exact h;omega⟩,rfl,rfl⟩)
  rcases m with⟨X,_⟩|⟨i,h1,h2,I⟩
  · exact absurd X J
  subst h2;refine AB<|HC (by exact ⟨i,⟨h1,I⟩,V,V⟩)
 rintro _ _ ⟨i,⟨hi,O⟩,rfl,rfl⟩;refine A2<|Sk 2 V<|Zo Wh (Pa #[_,_,_,_,_,_,_,_,_,_] isAgg315 Hi Y)<|Ze (Ah (vs:=[_]) (cs:=[_,_,_,_,_,_,_,_,_,_]) HP Hi ep Y V rfl V rfl V)<|AE fun W=>Zc [_,_,_] Y call279 Y V (XI E hn i hi y W) ?_;rintro _ _ ⟨_,⟨s3,s4,I,rfl⟩,rfl⟩;obtain ⟨g3,c3,rfl⟩:=I.form;refine AM Y<|AO rfl results271 Y (by exact ⟨_,s4,by unfold KZ;rw [O];exact I,rfl⟩)
theorem XY(q:QM)(z:0<=q.cl/\q.cl<=3)(c:Chg)(G:C1)(o n:Int)(y:AV)(g:Nat):CJ prog 255 #[.agg #[I4 q.kd,I4 q.tb,I4 q.cl,I4 q.lo,I4 q.hi,I4 q.bq,I4 q.ot,I4 c.t,I4 c.k,.bool c.had,I4 c.o.a,I4 c.o.b,I4 c.o.c,.bool c.has,I4 c.n.a,I4 c.n.b,I4 c.n.c,.pointer G,I5 g,I4 o,I4 n]] [[(g,.cells y.Ax3 91 (0,0))]] (fun r H'=>∃E m,r= .func (.func 265) #[] #[I5 E,I5 m]/\H'=[[(E,.cells #[I4 q.kd,I4 q.tb,I4 q.cl,I4 q.lo,I4 q.hi,I4 q.bq,I4 q.ot,I4 c.t,I4 c.k,.bool c.had,I4 c.o.a,I4 c.o.b,I4 c.o.c,.bool c.has,I4 c.n.a,I4 c.n.b,I4 c.n.c,.pointer G,I5 g,I4 o,I4 n] 241 (0,0))],[(m,.cells #[I4 (Bh y q.cl)] 3 (0,0))],[(g,.cells y.Ax3 91 (0,0))]]):=by
 refine Se func255 ntmps255 [0] ?_;intro u R;refine A2<|Ze (J2 Y (cs:=#[I4 q.kd,I4 q.tb,I4 q.cl,I4 q.lo,I4 q.hi,I4 q.bq,I4 q.ot,I4 c.t,I4 c.k,.bool c.had,I4 c.o.a,I4 c.o.b,I4 c.o.c,.bool c.has,I4 c.n.a,I4 c.n.b,I4 c.n.c,.pointer G,I5 g,I4 o,I4 n]) (Gs q c G (some ⟨g,0,none⟩) o n))<|AE fun E=>CT Y<|Au (n:=10) (0::1::3::7::0::16::48::127::0::511::[]) 896 AG AG V<|A1 0 V (AL (off:=18) GW V rfl N2 Y)<|B6 1 V Pu Y ?_;refine A1 2 V (EY Y V)<|Fo 3 V Wh (A7 (cs:=#[_,_,_,_,_]) C5 AW Y BW B5) ?_;refine A1 4 V (AL (off:=0) GW V rfl CN Y)<|A1 5 V (Aj (off:=2) CH V rfl A4 Y)<|B6 6 V A5 Y ?_;refine Zz (l:=[7,8])<|C6 [false,false,false] [] V rfl (Zu [_,_] Y Sf Y V (Gf y q.cl z)) ?hk_1 (fun _ _ h=>h.elim) ?hl_1
 case' hk_1=>
  rintro _ _ ⟨rfl,rfl⟩;refine CA<|Yz 8 0 511 [] [] [] V Y V rfl V rfl (Al K1 #[_]) ?_;rintro _ _ ⟨m,rfl,rfl⟩
 case' hl_1=>
  refine C6 [true,true,true] [(6,(_,_)),(3,(_,_)),(1,(_,_))] V rfl (Al K1 #[_]) ?hk_5 (fun _ _ h=>h.elim) ?hl_5
  case' hk_5=>
   rintro _ _ ⟨m,rfl,rfl⟩;refine CA<|Yz 7 127 511 [6,3,1] [false,false,false] [] V Y V rfl V rfl (Zu [_,_] Y Sf Y V (Gf y q.cl z)) ?_;rintro _ _ ⟨rfl,rfl⟩
  case' hl_5=>
   exact Ar
 all_goals
  refine CA<|Yw 9 1023 V (Zs A4 Y Y V (hi:=by decide))<|DA<|Am<|BT<|Zv (CV (vs:=[]) (us:=[_,_]) Y Y)<|AN Y<|Zn [2] ?_;refine Zx<|AC<|AO V results255 Y (by exact ⟨E,m,V,V⟩)
theorem mU(q:QM)(m:0<=q.cl/\q.cl<=3)(c:Chg)(I:C1)(o n:Int)(y:AV)(z E G:Nat)(x:AV):BB prog 265 #[.agg x.Ax3,I5 E,I5 G] [[(E,.cells #[I4 q.kd,I4 q.tb,I4 q.cl,I4 q.lo,I4 q.hi,I4 q.bq,I4 q.ot,I4 c.t,I4 c.k,.bool c.had,I4 c.o.a,I4 c.o.b,I4 c.o.c,.bool c.has,I4 c.n.a,I4 c.n.b,I4 c.n.c,.pointer I,I5 z,I4 o,I4 n] 241 (0,0))],[(G,.cells #[I4 (Bh y q.cl)] 3 (0,0))],[(z,.cells y.Ax3 91 (0,0))]] (.bool (Ht q y x)):=by
 refine Se func265 ntmps265 [0,1,2] ?_;intro u R;refine A2<|Ze (Bx #[_,_,_,_,_])<|AE fun J=>AF Y<|A2<|Zo Wh (A7 (cs:=#[_,_,_,_,_]) C5 AW Y BW B5)<|Zh 0 GW V rfl CN Y<|Zv (Aj (off:=2) CH V rfl A4 Y)<|Zl A5 Y<|Xr [_,_] Y Sf Y V (Gf x q.cl m)<|CT Y<|Au (n:=19) (0::0::3::7::15::15::63::127::255::511::255::1279::3327::7423::15615::32767::65535::131071::262143::[]) 0 AG AG V<|A1 0 V (AA Y)<|B6 1 V A5 Y<|A1 2 V (EE Y Y)<|A1 3 V (AA Y)<|CS (t:=14) Y (fun g=>?_) (fun g=>?_);focus
  rw [Cp g];refine AK 4 V<|AK 5 V<|AK 6 V<|AK 7 V<|AK 8 V<|AK 9 V<|AK 10 V<|AK 11 V<|AK 12 V<|AK 13 V<|AK 14 V<|AK 15 V<|AK 16 V<|A1 17 V (Ay Y Y) ?_
 rotate_left
 focus
  rw [CC g];refine B1 4 V (AA Y)<|DG 5 V Wh (BZ A5 Y B5)<|B1 6 V (Bd Y Y)<|B1 7 V (AA Y)<|CS (t:=18) Y (fun h2=>?_) (fun h2=>?_);focus
   rw [Cp h2];refine B1 8 V (AL (off:=1) F1 V rfl A4 Y)<|DG 9 V Wh (BZ A5 Y B5)<|B1 10 V (AL (off:=18) GW V rfl N2 Y)<|DG 11 V Wh (BZ Pu Y B5)<|B1 12 V (EY Y V)<|B1 13 V (AL (off:=1) F1 V rfl A4 Y)<|DG 14 V Wh (BZ A5 Y B5)<|B1 15 V (EE Y Y)<|B1 16 V (Ay Y Y)<|A1 17 V (BC Y Y) ?_
  rotate_left
  focus
   rw [CC h2];refine AK 8 V<|AK 9 V<|AK 10 V<|AK 11 V<|AK 12 V<|AK 13 V<|AK 14 V<|AK 15 V<|B1 16 V (BC Y Y)<|A1 17 V (BC Y Y) ?_
 all_goals
  refine A1 18 V (Aq Y)<|Am<|Zn [4] ?_;refine Zx<|AC<|AO V results265 Y (by exact ⟨by simp [Ht, *],V⟩)
theorem RD(q:QM)(E:0<=q.cl/\q.cl<=3)(c:Chg)(G:C1)(o n:Int)(y:AV)(g:Nat):CJ prog 255 #[.agg #[I4 q.kd,I4 q.tb,I4 q.cl,I4 q.lo,I4 q.hi,I4 q.bq,I4 q.ot,I4 c.t,I4 c.k,.bool c.had,I4 c.o.a,I4 c.o.b,I4 c.o.c,.bool c.has,I4 c.n.a,I4 c.n.b,I4 c.n.c,.pointer G,I5 g,I4 o,I4 n]] [[(g,.cells y.Ax3 91 (0,0))]] (fun r H'=>∃m z,r= .func (.func 265) #[] ([I5 m,I5 z]:List A3).toArray/\H'=[[(m,.cells #[I4 q.kd,I4 q.tb,I4 q.cl,I4 q.lo,I4 q.hi,I4 q.bq,I4 q.ot,I4 c.t,I4 c.k,.bool c.had,I4 c.o.a,I4 c.o.b,I4 c.o.c,.bool c.has,I4 c.n.a,I4 c.n.b,I4 c.n.c,.pointer G,I5 g,I4 o,I4 n] 241 (0,0))]++[(z,.cells #[I4 (Bh y q.cl)] 3 (0,0))]++[(g,.cells y.Ax3 91 (0,0))]]):=by
 refine E8 (XY q E c G o n y g) V ?_;rintro r H' ⟨m,z,rfl,rfl⟩;exact ⟨_,⟨m,z,V,V⟩,by simp⟩
theorem aY(q:QM)(E:0<=q.cl/\q.cl<=3)(c:Chg)(G:C1)(o n:Int)(y:AV)(g m z:Nat)(x:AV):BB prog 265 (.agg x.Ax3::([I5 m,I5 z]:List A3)).toArray [[(m,.cells #[I4 q.kd,I4 q.tb,I4 q.cl,I4 q.lo,I4 q.hi,I4 q.bq,I4 q.ot,I4 c.t,I4 c.k,.bool c.had,I4 c.o.a,I4 c.o.b,I4 c.o.c,.bool c.has,I4 c.n.a,I4 c.n.b,I4 c.n.c,.pointer G,I5 g,I4 o,I4 n] 241 (0,0))]++[(z,.cells #[I4 (Bh y q.cl)] 3 (0,0))]++[(g,.cells y.Ax3 91 (0,0))]] (.bool (Ht q y x)):=by
 refine E8 (mU q E c G o n y g m z x) V ?_;rintro r H' ⟨rfl,rfl⟩;exact ⟨_,⟨V,V⟩,by simp⟩
variable{r:CB}
set_option maxHeartbeats 1000000 in
theorem dF(q:QM)(c:Chg)(g m:C1)(o n:Int)(z:0<=q.cl/\q.cl<=3){rv:A3}{sr:List AR}(hr:BS 5 91 rv r.rows.length (Aa r.rows) sr)(hn:r.rows.length<=100000000){s2:List AR}(h2:JQ m (afQ q c) s2):CJ prog 222 #[.agg (q.HU c g m o n),.agg #[rv,I4 r.val,.bool r.fnd]] [sr,s2] (fun w H'=>∃E s',w= .tuple #[.agg #[E,I4 r.val,.bool r.fnd],.bool true]/\BS 5 91 E (Cv q c r.rows).length (Aa (Cv q c r.rows)) s'/\H'=[s']):=by
 have ax:=mL;obtain ⟨pv,cv,rfl⟩:=hr.form;have hU:=Ca hr A0
 have af:(r.rows.filter fun x=>!Fy c x).length<=r.rows.length:=On _ _;refine Se func222 ntmps222 [0,1] ?_;intro u R;refine A2<|Ze (J2 Y (cs:=(q.HU c g m o n)) (Gs q c g m o n))<|AE fun J=>Ze (Bx #[.slice pv r.rows.length cv,I4 r.val,.bool r.fnd])<|AE fun W=>Ze (Al GO #[_,_,_])<|AE fun b3=>AF Y<|A2<|Zh 0 Cd V rfl Cl Y<|Zl DQ Y ?_;refine Zv (CV (vs:=[]) (us:=[_]) Y Y)<|Zc [_,_] Y call252 Y V (WO (B:=[(J,.cells (q.HU c g m o n) 241 (0,0))]) hU A0 253 [I5 J] (Fy c) call253 (fun x=>kL q c g m o n x J)) ?_;rintro _ _ ⟨_,⟨s3,K,rfl⟩,rfl⟩;obtain ⟨g3,c3,rfl⟩:=K.form;refine Zh 0 Cd V rfl Cl Y<|Xe (Zs Cl Y Y V (hi:=by(simp;done))) ?_;refine A6<|Zb [2,3,4] ?_;refine C9 (e0:=[(2,_)]) (H0:=[[(W,.cells #[.slice g3 (r.rows.filter fun x=>!Fy c x).length c3,I4 r.val,.bool r.fnd] 51 (0,0))],s3,s2]) (fun e H=>∃(w:A3) (G:List AR),(BS 5 91 w (Cv q c r.rows).length (Aa (Cv q c r.rows)) G)/\e=[]/\H=[[(W,.cells #[w,I4 r.val,.bool r.fnd] 51 (0,0))],G]) Wp ?hx_1 ?hy_1
 case hx_1=>
  refine A2<|Zh 18 GW V rfl N2 Y<|Zl Pu Y ?_;refine Zv (GV UP Y Y)<|A6<|Af Y (fun M=>?_) (fun M=>?_);·
   obtain ⟨y,hy⟩:∃y,afQ q c=some y:=cT.1 (by rw [<-h2.some_];exact M);rw [hy]at h2;obtain ⟨I,rfl,rfl⟩:=h2;refine Au (n:=11) (0::1::0::4::12::28::0::64::255::511::1023::[]) 1408 AG AG V<|A1 0 V (AL (off:=0) Cd V rfl Cl Y)<|B6 1 V DQ Y ?_;refine A1 2 V (AL (off:=18) GW V rfl N2 Y)<|B6 3 V Pu Y ?_;refine A1 4 V (EY Y V)<|CX (b:=I) (x:= .cells y.Ax3 91 (0,0)) (D':=63) 5 V rfl V C4 (Pa y.Ax3 C5 AW Y) ?_;refine Fo 6 V Wh (A7 cN X1 Y BW (by exact AP V)) ?_;refine Zz (l:=[7])<|C6 [false,true,true,true] [(5,(_,_)),(3,(_,_)),(1,(_,_))] V rfl (Zw [_] Y call255 Y V (RD q z c g o n y I)) ?_ DC Ar;rintro _ _ ⟨_,⟨O,U,rfl,rfl⟩,rfl⟩;refine ⟨Ii (by simp [*]) (Zk (Zk (Ab))),?_⟩;refine Zz (l:=[8])<|C6 [false,false,false] [] V rfl (Zw [_,_,_] Y call254 Y V (UN K A0 y 265 [I5 O,I5 U] (Ht q y) call265 (fun x=>aY q z c g o n y I O U x))) ?_ DC Ar;rintro _ _ ⟨_,⟨s5,s6,Z,rfl⟩,rfl⟩;refine ⟨Ab,?_⟩;obtain ⟨g5,c5,rfl⟩:=Z.form;refine A1 9 V (AL (off:=0) Cd V rfl Cl Y)<|Zz (l:=[10])<|C6 [] [] V rfl (Zs Cl Y Y V (hi:=by(simp;done))) ?_ (fun _ _ h=>h.elim) Ar;rintro _ _ ⟨rfl,rfl⟩;refine CA<|Am<|FF (e:=[]) (h:=by exact ⟨_,s5,by unfold Cv;rw [hy];exact Z,rfl,rfl⟩)
  have hy:afQ q c=none:=by have h9:=h2.some_;rw [M]at h9;exact o4.1 (by rw [<-h9];decide)
  refine AB<|FF (e:=[]) (h:=by exact ⟨_,s3,by unfold Cv;rw [hy];exact K,rfl,rfl⟩)
 rintro _ _ ⟨w,G,X,rfl,rfl⟩;obtain ⟨p4,c4,rfl⟩:=X.form;refine A2<|Zo Wh (A7 (cs:=#[_,_,_]) D0 BE Y BW (by exact AP V)) ?_;refine Xe (Ao BE Y Y Ft Wu (by exact Bj rfl) DO AH (by exact Aw _)) ?_;refine AM Y<|Bo V results222 Y Wh (Ai D0 BE Wn (V)) Y (by exact ⟨_,G,V,X,V⟩)
theorem YW(q:QM)(c:Chg)(E g:C1)(o n:Int)(G:C1)(z m:Nat)(hv:-4000000000000000000<=r.val/\r.val<=4000000000000000000):BB prog 224 #[.agg (q.HU c E g o n),.agg #[.slice G z m,I4 r.val,.bool r.fnd]] [] (.tuple #[.agg #[.slice G z m,I4 (if g.isSome then r.val+1 else r.val -1),.bool r.fnd],.bool true]):=by
 refine Se func224 ntmps224 [0,1] ?_;intro u R;refine A2<|Ze (J2 Y (cs:=(q.HU c E g o n)) (Gs q c E g o n))<|AE fun K=>Ze (Bx #[.slice G z m,I4 r.val,.bool r.fnd])<|AE fun M=>Ze (Al GO #[_,_,_])<|AE fun J=>CT Y<|A2<|Zh 18 GW V rfl N2 Y<|Zl Pu Y ?_;refine Zv (GV UP Y Y)<|A6<|Af Y (fun I=>?_) (fun I=>?_);focus
  refine Zg<|Zh 1 Cd V rfl A4 Y<|Zl A5 Y ?_;refine Yi Y Y ?_
 rotate_left
 focus
  refine Zg<|Zh 1 Cd V rfl A4 Y<|Zl A5 Y ?_
  (refine BN (GI Y Y (IntWalk.i64_in _ ?_)) ?_;(focus (omega)))
 all_goals
  refine Zh 1 Cd V rfl A4 Y<|Xe (Zs A4 Y Y V (hi:=by(simp;done))) ?_;refine A6<|A2<|Zo Wh (A7 (cs:=#[_,_,_]) D0 BE Y BW B5) ?_;refine Xe (Xw BE _) ?_;refine AN Y<|Zn [4,5] ?_;refine Zx<|AC<|Bo rfl results224 Y Wh (Ai D0 BE Wn (rfl)) Y (by exact ⟨by rw [I];rfl,rfl⟩)
theorem kI(q:QM)(c:Chg)(z E:C1)(o n:Int)(G:C1)(m g:Nat)(hv:-4000000000000000000<=r.val/\r.val<=4000000000000000000)(M:(-1000000000<=o/\o<=1000000000)/\-1000000000<=n/\n<=1000000000):BB prog 226 #[.agg (q.HU c z E o n),.agg #[.slice G m g,I4 r.val,.bool r.fnd]] [] (.tuple #[.agg #[.slice G m g,I4 (r.val+(n -o)),.bool r.fnd],.bool true]):=by
 refine Se func226 ntmps226 [0,1] ?_;intro u R;refine A2<|Ze (J2 Y (cs:=(q.HU c z E o n)) (Gs q c z E o n))<|AE fun J=>Ze (Bx #[.slice G m g,I4 r.val,.bool r.fnd])<|AE fun K=>Ze (Al GO #[_,_,_])<|AE fun I=>AF Y<|A2<|Zh 1 Cd V rfl A4 Y<|Zl A5 Y ?_;refine Zh 20 GW V rfl A4 Y<|Zl A5 Y ?_;refine Zh 19 GW V rfl A4 Y<|Zl A5 Y ?_
 (refine BN (GI Y Y (IntWalk.i64_in _ ?_)) ?_;(focus (omega)))
 refine Yi Y Y<|Zh 1 Cd V rfl A4 Y<|Xe (Zs A4 Y Y V (hi:=by(simp;done))) ?_;refine Z0<|Zn [3,4] ?_;refine BT<|Zo Wh (A7 (cs:=#[_,_,_]) D0 BE Y BW B5) ?_;refine Xe (Xw BE _) ?_;refine AM Y<|Bo V results226 Y Wh (Ai D0 BE Wn (V)) Y (by exact ⟨V,V⟩)
def EW(k:Int)(p:BQ):Bool:=decide (p.r.k=k)
def Gx(k:Int)(p:BQ):Bool:=decide (p.l.k=k)
def Bl(rows:List AV):List BQ:=(List.range (rows.length/2)).map fun k=>⟨rows.getD (2*k) AV.zero,rows.getD (2*k+1) AV.zero⟩
def BU(ps:List BQ):List AV:=ps.flatMap fun p=>[p.l,p.r]
def jnT(q:QM)(c:Chg)(ps:List BQ):List BQ×Bool:=
 if c.t=q.ot then
  (if c.has then(ps.map fun p=>if EW c.k p then⟨p.l,⟨c.t,c.k,c.n⟩⟩else p,c.had)else(ps.filter fun p=>!EW c.k p,c.had))
 else match afQ q c with
  |none=>(ps.filter fun p=>!Gx c.k p,true)
  |some y=>if Gu (EW (mQ q (afQ q c))) ps<0 then(ps.filter fun p=>!Gx c.k p,(bfQ q c).isSome&&decide (mQ q (bfQ q c)=mQ q (afQ q c)))
   else(KZ (fun p=>Ht q y p.l) (ps.filter fun p=>!Gx c.k p) ⟨y,(ps.getD (Gu (EW (mQ q (afQ q c))) ps).toNat ⟨AV.zero,AV.zero⟩).r⟩,true)
def D9(q:QM)(c:Chg)(r:CB):CB×Bool:=if q.tb=q.ot then(r,false)else(⟨BU (jnT q c (Bl r.rows)).1,r.val,r.fnd⟩,(jnT q c (Bl r.rows)).2)
theorem Gj(rows:List AV):(Bl rows).length=rows.length/2:=by unfold Bl;rw [C2,ft]
variable{rows:List AV}{k:Nat}{y x:AV}
theorem Ye(hx:rows[2*k]?=some x)(hy:rows[2*k+1]?=some y):(Bl rows)[k]?=some ⟨x,y⟩:=by
 have h:=(D3.1 hy).1;unfold Bl;rw [HL,eN A0,N5,Nd,Nd,hx,hy];rfl
theorem Dh:∀ps:List BQ,(BU ps).length=2*ps.length
 |[]=>rfl
 |p::ps=>by
  have:=Dh ps;unfold BU at*;rw [L0,C7,this,GB];simp;omega
variable{ps:List BQ}
theorem MN{p:BQ}(h:ps[k]?=some p):BU (ps.take (k+1))=BU (ps.take k)++[p.l,p.r]:=by
 unfold BU;rw [Bt h,O2,ij]
theorem iW(q:QM)(c:Chg)(ps:List BQ):(jnT q c ps).1.length<=ps.length+1:=by
 have g:=On (fun p=>!EW c.k p) ps;have h2:=On (fun p=>!Gx c.k p) ps
 unfold jnT;split
 · split
   · simp only [C2];omega
   · simp only;omega
 · split
   · simp only;omega
   · split
     · simp only;omega
     · simp only [QW];omega
theorem vW(q:QM)(c:Chg)(m z:C1)(o n:Int)(g:Nat)(x:BQ):BB prog 267 #[.agg #[I4 x.l.t,I4 x.l.k,I4 x.l.v.a,I4 x.l.v.b,I4 x.l.v.c,I4 x.r.t,I4 x.r.k,I4 x.r.v.a,I4 x.r.v.b,I4 x.r.v.c],I5 g] [[(g,.cells (q.HU c m z o n) 241 (0,0))]] (.bool (EW c.k x)):=by
 refine Se func267 ntmps267 [0,1] ?_;intro u R;refine A2<|Ze (Bx #[I4 x.l.t,I4 x.l.k,I4 x.l.v.a,I4 x.l.v.b,I4 x.l.v.c,I4 x.r.t,I4 x.r.k,I4 x.r.v.a,I4 x.r.v.b,I4 x.r.v.c])<|AE fun E=>AF Y<|A2<|Zh 5 US V rfl AW Y<|Zv (Aj (off:=1) F1 V rfl A4 Y)<|Zl A5 Y<|Zh 7 GW V rfl D2 Y<|Zv (Aj (off:=1) CM V rfl A4 Y)<|Zl A5 Y<|Zv (Bd Y Y)<|AM Y<|AO V results267 Y (by exact ⟨V,V⟩)
theorem vV(q:QM)(c:Chg)(m z:C1)(o n:Int)(g:Nat)(x:BQ):BB prog 268 #[.agg #[I4 x.l.t,I4 x.l.k,I4 x.l.v.a,I4 x.l.v.b,I4 x.l.v.c,I4 x.r.t,I4 x.r.k,I4 x.r.v.a,I4 x.r.v.b,I4 x.r.v.c],I5 g] [[(g,.cells (q.HU c m z o n) 241 (0,0))]] (.bool (Gx c.k x)):=by
 refine Se func268 ntmps268 [0,1] ?_;intro u R;refine A2<|Ze (Bx #[I4 x.l.t,I4 x.l.k,I4 x.l.v.a,I4 x.l.v.b,I4 x.l.v.c,I4 x.r.t,I4 x.r.k,I4 x.r.v.a,I4 x.r.v.b,I4 x.r.v.c])<|AE fun E=>AF Y<|A2<|Zh 0 US V rfl AW Y<|Zv (Aj (off:=1) F1 V rfl A4 Y)<|Zl A5 Y<|Zh 7 GW V rfl D2 Y<|Zv (Aj (off:=1) CM V rfl A4 Y)<|Zl A5 Y<|Zv (Bd Y Y)<|AM Y<|AO V results268 Y (by exact ⟨V,V⟩)
theorem vU(q:QM)(c:Chg)(m z:C1)(o n:Int)(g:Nat)(x:BQ):BB prog 270 #[.agg #[I4 x.l.t,I4 x.l.k,I4 x.l.v.a,I4 x.l.v.b,I4 x.l.v.c,I4 x.r.t,I4 x.r.k,I4 x.r.v.a,I4 x.r.v.b,I4 x.r.v.c],I5 g] [[(g,.cells (q.HU c m z o n) 241 (0,0))]] (.bool (EW n x)):=by
 refine Se func270 ntmps270 [0,1] ?_;intro u R;refine A2<|Ze (Bx #[I4 x.l.t,I4 x.l.k,I4 x.l.v.a,I4 x.l.v.b,I4 x.l.v.c,I4 x.r.t,I4 x.r.k,I4 x.r.v.a,I4 x.r.v.b,I4 x.r.v.c])<|AE fun E=>AF Y<|A2<|Zh 5 US V rfl AW Y<|Zv (Aj (off:=1) F1 V rfl A4 Y)<|Zl A5 Y<|Zh 20 GW V rfl A4 Y<|Zl A5 Y<|Zv (Bd Y Y)<|AM Y<|AO V results270 Y (by exact ⟨V,V⟩)
theorem vT(g:Nat)(us:List A3)(E:AV->Bool)(m:∀(args:As) (w:AD),(callFunc g args).run prog w= .ok (.enter g args) w)(G:∀x:AV,BB prog g (.agg x.Ax3::us).toArray [B] (.bool (E x)))(z:Nat)(x:BQ):BB prog 272 #[.agg #[I4 x.l.t,I4 x.l.k,I4 x.l.v.a,I4 x.l.v.b,I4 x.l.v.c,I4 x.r.t,I4 x.r.k,I4 x.r.v.a,I4 x.r.v.b,I4 x.r.v.c],I5 z] [[(z,.cells #[.func (.func g) #[] us.toArray] 147 (0,0))],B] (.bool (E x.l)):=by
 refine Se func272 ntmps272 [0,1] ?_;intro u R;refine A2<|Ze (Bx #[I4 x.l.t,I4 x.l.k,I4 x.l.v.a,I4 x.l.v.b,I4 x.l.v.c,I4 x.r.t,I4 x.r.k,I4 x.r.v.a,I4 x.r.v.b,I4 x.r.v.c])<|AE fun I=>AF Y<|A2<|Zl isAgg147 Y ?_;refine Zh 0 US V rfl AW Y<|Zo Wh (A7 (cs:=x.l.Ax3) C5 AW Y BW B5) ?_;refine Xr [_] Y (m) Y V (G x.l) ?_;refine AM Y<|AO V results272 Y (by exact ⟨V,V⟩)
variable{lt:Int->Int->Bool}{a b:Bool}{n o:Int}
theorem yj(g:(b&&(!r.fnd||!lt r.val o))=false)(z:a=true)(m:(!r.fnd||lt n r.val)=true):FH lt b a o n r=(⟨r.rows,n,true⟩,true):=by unfold FH;rw [g,z,m];rfl
theorem yg(g:(b&&(!r.fnd||!lt r.val o))=false)(z:a=true)(m:(!r.fnd||lt n r.val)=false):FH lt b a o n r=(⟨r.rows,r.val,true⟩,true):=by unfold FH;rw [g,z,m];rfl
theorem yh(g:(b&&(!r.fnd||!lt r.val o))=false)(m:a=false):FH lt b a o n r=(⟨r.rows,r.val,r.fnd⟩,true):=by unfold FH;rw [g,m];rfl
theorem rY(g:(b&&(!r.fnd||!lt r.val o))=true)(m:((a&&r.fnd)&&!lt r.val n)=true):FH lt b a o n r=(⟨r.rows,n,r.fnd⟩,true):=by unfold FH;rw [g,m];rfl
theorem rX(g:(b&&(!r.fnd||!lt r.val o))=true)(m:((a&&r.fnd)&&!lt r.val n)=false):(FH lt b a o n r).2=false:=by unfold FH;rw [g,B2 rfl];exact m
def aI(e:CB×Bool):CB:=if e.2 then e.1 else CB.none
def otP(c:Chg)(ps:List BQ):List BQ:=if c.has then ps.map fun p=>if EW c.k p then⟨p.l,⟨c.t,c.k,c.n⟩⟩else p else ps.filter fun p=>!EW c.k p
theorem iK(c:Chg)(ps:List BQ):(otP c ps).length<=ps.length:=by
 unfold otP;split;· rw [C2];exact B4 _
 · exact On _ _
theorem TD(c:Chg){x:BQ}(h:ps[k]?=some x):otP c (ps.take (k+1))=otP c (ps.take k)++(if EW c.k x then(if c.has then [⟨x.l,⟨c.t,c.k,c.n⟩⟩]else [])else [x]):=by
 rw [Bt h];unfold otP;split;· rw [HD];cases h9:EW c.k x<;>simp [h9]
 · rw [Lz];cases h9:EW c.k x<;>simp [h9]
theorem ut(c:Chg){x:BQ}(h:ps[k]?=some x)(g:EW c.k x=false):otP c (ps.take (k+1))=otP c (ps.take k)++[x]:=by rw [TD c h,g];rfl
theorem yB(c:Chg){x:BQ}(h:ps[k]?=some x)(m:EW c.k x=true)(g:c.has=true):otP c (ps.take (k+1))=otP c (ps.take k)++[⟨x.l,⟨c.t,c.k,c.n⟩⟩]:=by rw [TD c h,m,g];rfl
theorem yC(c:Chg){x:BQ}(h:ps[k]?=some x)(m:EW c.k x=true)(g:c.has=false):otP c (ps.take (k+1))=otP c (ps.take k):=by rw [TD c h,m,g];exact HT _
theorem yL{k:Int}(h:y.k≠k):EW k ⟨x,y⟩=false:=CC h
theorem yK{k:Int}(h:¬y.k≠k):EW k ⟨x,y⟩=true:=Cp (Fi.1 h)
theorem yN{k:Int}(h:x.k≠k):Gx k ⟨x,y⟩=false:=CC h
theorem yM{k:Int}(h:¬x.k≠k):Gx k ⟨x,y⟩=true:=Cp (Fi.1 h)
theorem Em(a b:List BQ):BU (a++b)=BU a++BU b:=by unfold BU;rw [O2]
theorem Yd(h:2*k+1<rows.length):∃x y,rows[2*k]?=some x/\rows[2*k+1]?=some y/\(Bl rows)[k]?=some ⟨x,y⟩:=by
 obtain ⟨x,hx⟩:∃x,rows[2*k]?=some x:=⟨_,Bk A0⟩;obtain ⟨y,hy⟩:∃y,rows[2*k+1]?=some y:=⟨_,Bk h⟩;exact ⟨x,y,hx,hy,Ye hx hy⟩
set_option maxHeartbeats 2000000 in
theorem Sd(q:QM)(K:BH q)(c:Chg)(r:CB)(p:C1)(n cap:Nat)(m:Int):CJ prog 193 #[.agg q.Ax4,.agg #[.slice p n cap,I4 r.val,.bool r.fnd],.agg c.Ax2,I4 m] [] (fun w H'=>∃U n' c',w= .tuple #[.agg #[.slice U n' c',I4 (aI (FH (ltS m) (bfQ q c).isSome (afQ q c).isSome (mQ q (bfQ q c)) (mQ q (afQ q c)) r)).val,.bool (aI (FH (ltS m) (bfQ q c).isSome (afQ q c).isSome (mQ q (bfQ q c)) (mQ q (afQ q c)) r)).fnd],.bool (FH (ltS m) (bfQ q c).isSome (afQ q c).isSome (mQ q (bfQ q c)) (mQ q (afQ q c)) r).2]/\((FH (ltS m) (bfQ q c).isSome (afQ q c).isSome (mQ q (bfQ q c)) (mQ q (afQ q c)) r).2=true->U=p/\n'=n/\c'=cap)/\((FH (ltS m) (bfQ q c).isSome (afQ q c).isSome (mQ q (bfQ q c)) (mQ q (afQ q c)) r).2=false->U=none/\n'=0/\c'=0)/\H'=[]):=by
 refine Se func193 ntmps193 [0,1,2,3] ?_;intro u R;refine A2<|Ze (Bx #[_,_,_,_,_,_,_])<|AE fun b1=>Ze (Bx #[.slice p n cap,I4 r.val,.bool r.fnd])<|AE fun b2=>Ze (Bx #[_,_,_,_,_,_,_,_,_,_])<|AE fun b3=>Ze (Ff GO (cs:=#[.slice none 0 0,I4 0,.bool false]) AG)<|AE fun b4=>AF Y<|A2<|Zo Wh (A7 (cs:=c.Ax2) G1 D2 Y BW (by exact AP V)) ?_;refine Xr [_] Y call183 Y V (Ku c) ?_;refine Sk 3 V<|Ze (Al DS #[_,_,_,_,_])<|AE fun bx=>Xe (Xw AW c.before.Ax3) ?_;refine AN Y<|Zn [3,4,5,6,8,10,11] ?_;refine BT<|Zo Wh (A7 (cs:=c.Ax2) G1 D2 Y BW (by exact AP V)) ?_;refine Xr [_] Y call77 Y V (IK c) ?_;refine Sk 3 V<|Ze (Al DS #[_,_,_,_,_])<|AE fun W=>Xe (Xw AW c.after.Ax3) ?_;refine AF Y<|A2<|Zo Wh (A7 (cs:=#[_,_,_,_,_,_,_]) DE CN Y BW (by exact AP V)) ?_;refine Zo Wh (A7 (cs:=#[_,_,_,_,_]) C5 AW Y BW (by exact AP V)) ?_;refine Zm Y<|Xr [_,_,_] Y aq Y V (Oz q K c.before c.had) ?_;rw [iY];refine AN Y<|Zn [3,4,5,8,10,12,13,14] ?_;refine BT<|Zo Wh (A7 (cs:=#[_,_,_,_,_,_,_]) DE CN Y BW (by exact AP V)) ?_;refine Zo Wh (A7 (cs:=#[_,_,_,_,_]) C5 AW Y BW (by exact AP V)) ?_;refine Zm Y<|Xr [_,_,_] Y aq Y V (Oz q K c.after c.has) ?_;rw [ZL];refine AF Y<|A2<|Zo Wh (A7 (cs:=#[_,_,_,_,_,_,_]) DE CN Y BW (by exact AP V)) ?_;refine Zo Wh (A7 (cs:=#[_,_,_,_,_]) C5 AW Y BW (by exact AP V)) ?_;refine Zm Y<|Xr [_,_,_] Y cR Y V (GQ q K c.before _) ?_;rw [iP];refine AF Y<|A2<|Zo Wh (A7 (cs:=#[_,_,_,_,_,_,_]) DE CN Y BW (by exact AP V)) ?_;refine Zo Wh (A7 (cs:=#[_,_,_,_,_]) C5 AW Y BW (by exact AP V)) ?_;refine Zm Y<|Xr [_,_,_] Y cR Y V (GQ q K c.after _) ?_;rw [iQ];refine AN Y<|Zn [3,5,8,14,15,16,17] ?_;refine Zx<|Zq<|A2<|Sk 2 V ?_;refine Ae (t:=45) Y V (fun X=>?_) (fun X=>?_);focus
  refine Yf 2 Cd V rfl DP Y<|Yl Fc Y ?_;refine Yg (CR Y)<|Zf Y Y ?_;refine Ae (t:=49) Y V (fun Z=>?_) (fun Z=>?_);focus
   have z:((bfQ q c).isSome&&(!r.fnd||!ltS m r.val (mQ q (bfQ q c))))=true:=by simp_all
   refine Sk 8 V<|Z0<|Zn [3,5,8,15,17,57] ?_;refine Zx<|BV Y<|C0 Y<|Zv (CR Y)<|Zm Y<|Ae (t:=60) Y V (fun g4=>?_) (fun g4=>?_);focus
    refine Sk 11 V<|Z0<|Zn [5,8,17,71] ?_;refine Zx<|BV Y ?_
   rotate_left
   focus
    refine Yf 2 Cd V rfl DP Y<|Yl Fc Y ?_;refine Yg (CR Y)<|Sk 2 V ?_;refine Ae (t:=65) Y V (fun G=>?_) (fun G=>?_);focus
     refine Sk 6 V<|Z0<|Zn [5,8,17,71] ?_;refine Zx<|BV Y ?_
    rotate_left
    focus
     refine Zf Y Y<|Yf 1 Cd V rfl A4 Y<|Yl A5 Y ?_;refine Zf Y Y<|Xr [_,_,_] Y call237 Y V (RV _ _ _) ?_;refine H3 Y Y<|Z0<|Zn [5,8,17,71] ?_;refine Zx<|Af Y (fun M=>?_) (fun M=>?_);rotate_left;refine B3<|B7 Y<|Zh 1 Cd V rfl A4 Y<|Xe (Zs A4 Y Y V (hi:=by(simp;done))) ?_;refine A6<|A2<|Zo Wh (A7 (cs:=#[_,_,_]) D0 BE Y BW (by exact AP V)) ?_;refine Xe (Ao BE Y Y Ft Wu (by exact Bj rfl) DO AH (by exact Aw _)) ?_;refine AM Y<|Zt<|Bo V dp Y Wh (Ai D0 BE Wn (AP V)) Y (by
      have E:(((afQ q c).isSome&&r.fnd)&&!ltS m r.val (mQ q (afQ q c)))=true:=by simp_all
      have g:=rY (n:=mQ q (afQ q c)) z E;exact ⟨p,n,cap,by rw [g];rfl,fun _=>⟨rfl,rfl,rfl⟩,fun h=>(by rw [g]at h;cases h),rfl⟩)
   all_goals
    refine A2<|Zv (BK (vs:=[]) (cs:=#[_,_,_]) Y (AY (pl:=#[(0,1),(1,1),(2,1)]) GO Cd (fun _=>by kernel_rfl) rfl))<|Xe (Ao BE Y Y Ft Wu (by exact Bj rfl) DO AH (by exact Aw _)) ?_;refine AM Y<|Zt<|Zt<|Bo V dp Y Wh (Ai D0 BE Wn (AP V)) Y (by
     have E:(((afQ q c).isSome&&r.fnd)&&!ltS m r.val (mQ q (afQ q c)))=false:=by simp_all
     have g:(FH (ltS m) (bfQ q c).isSome (afQ q c).isSome (mQ q (bfQ q c)) (mQ q (afQ q c)) r).2=false:=rX z E;exact ⟨none,0,0,by unfold aI;rw [g];rfl,fun h=>(by rw [g]at h;cases h),fun _=>⟨rfl,rfl,rfl⟩,rfl⟩)
  focus
   refine Zf Y Y<|Yf 1 Cd V rfl A4 Y<|Yl A5 Y ?_;refine Zf Y Y<|Xr [_,_,_] Y call237 Y V (RV _ _ _) ?_;refine Yg (CR Y)<|Sk 2 V<|Z0<|Zn [3,5,8,15,17,57] ?_;refine Zx<|Af Y (fun g3=>?_) (fun g3=>?_);focus
    have z:((bfQ q c).isSome&&(!r.fnd||!ltS m r.val (mQ q (bfQ q c))))=true:=by simp_all
    refine C0 Y<|Zv (CR Y)<|Zm Y<|Ae (t:=60) Y V (fun G=>?_) (fun G=>?_);focus
     refine Sk 11 V<|Z0<|Zn [5,8,17,71] ?_;refine Zx<|BV Y ?_
    rotate_left
    focus
     refine Yf 2 Cd V rfl DP Y<|Yl Fc Y ?_;refine Yg (CR Y)<|Sk 2 V ?_;refine Ae (t:=65) Y V (fun G=>?_) (fun G=>?_);focus
      refine Sk 6 V<|Z0<|Zn [5,8,17,71] ?_;refine Zx<|BV Y ?_
     rotate_left
     focus
      refine Zf Y Y<|Yf 1 Cd V rfl A4 Y<|Yl A5 Y ?_;refine Zf Y Y<|Xr [_,_,_] Y call237 Y V (RV _ _ _) ?_;refine H3 Y Y<|Z0<|Zn [5,8,17,71] ?_;refine Zx<|Af Y (fun M=>?_) (fun M=>?_);rotate_left;refine B3<|B7 Y<|Zh 1 Cd V rfl A4 Y<|Xe (Zs A4 Y Y V (hi:=by(simp;done))) ?_;refine A6<|A2<|Zo Wh (A7 (cs:=#[_,_,_]) D0 BE Y BW (by exact AP V)) ?_;refine Xe (Ao BE Y Y Ft Wu (by exact Bj rfl) DO AH (by exact Aw _)) ?_;refine AM Y<|Zt<|Bo V dp Y Wh (Ai D0 BE Wn (AP V)) Y (by
       have E:(((afQ q c).isSome&&r.fnd)&&!ltS m r.val (mQ q (afQ q c)))=true:=by simp_all
       have g:=rY (n:=mQ q (afQ q c)) z E;exact ⟨p,n,cap,by rw [g];rfl,fun _=>⟨rfl,rfl,rfl⟩,fun h=>(by rw [g]at h;cases h),rfl⟩)
    all_goals
     refine A2<|Zv (BK (vs:=[]) (cs:=#[_,_,_]) Y (AY (pl:=#[(0,1),(1,1),(2,1)]) GO Cd (fun _=>by kernel_rfl) rfl))<|Xe (Ao BE Y Y Ft Wu (by exact Bj rfl) DO AH (by exact Aw _)) ?_;refine AM Y<|Zt<|Zt<|Bo V dp Y Wh (Ai D0 BE Wn (AP V)) Y (by
      have E:(((afQ q c).isSome&&r.fnd)&&!ltS m r.val (mQ q (afQ q c)))=false:=by simp_all
      have g:(FH (ltS m) (bfQ q c).isSome (afQ q c).isSome (mQ q (bfQ q c)) (mQ q (afQ q c)) r).2=false:=rX z E;exact ⟨none,0,0,by unfold aI;rw [g];rfl,fun h=>(by rw [g]at h;cases h),fun _=>⟨rfl,rfl,rfl⟩,rfl⟩)
   focus
    have z:((bfQ q c).isSome&&(!r.fnd||!ltS m r.val (mQ q (bfQ q c))))=false:=by simp_all
 rotate_left
 focus
  have z:((bfQ q c).isSome&&(!r.fnd||!ltS m r.val (mQ q (bfQ q c))))=false:=by simp_all
  refine Sk 12 V<|Z0<|Zn [3,5,8,15,17,57] ?_;refine Zx<|DY Y ?_
 all_goals
  refine B3<|C0 Y<|A6<|Af Y (fun O=>?_) (fun O=>?_);·
   have J:(afQ q c).isSome=true:=O;refine Zq<|A2<|Zh 2 Cd V rfl DP Y<|Zl Fc Y ?_;refine Zv (CR Y)<|Zm Y<|Ae (t:=80) Y V (fun g8=>?_) (fun g8=>?_);focus
    have I:(!r.fnd||ltS m (mQ q (afQ q c)) r.val)=true:=by simp_all
    refine Sk 6 V<|A6<|BV Y ?_
   rotate_left
   focus
    refine Sk 2 V<|Yf 1 Cd V rfl A4 Y<|Yl A5 Y ?_;refine Xr [_,_,_] Y call237 Y V (RV _ _ _) ?_;refine H3 Y Y<|A6<|Af Y (fun g9=>?_) (fun g9=>?_);focus
     have I:(!r.fnd||ltS m (mQ q (afQ q c)) r.val)=true:=by simp_all
    rotate_left
    have I:(!r.fnd||ltS m (mQ q (afQ q c)) r.val)=false:=by simp_all
    refine B3<|Zg<|Zh 2 Cd V rfl DP Y<|Xe (Zs DP Y Y V (hi:=by(simp;done))) ?_;refine Z0<|Zn [5,8] ?_;refine BT<|Zo Wh (A7 (cs:=#[_,_,_]) D0 BE Y BW (by exact AP V)) ?_;refine Xe (Ao BE Y Y Ft Wu (by exact Bj rfl) DO AH (by exact Aw _)) ?_;refine AM Y<|Bo rfl dp Y Wh (Ai D0 BE Wn (AP rfl)) Y (by(have g:=yg (n:=mQ q (afQ q c)) z J I;exact ⟨p,n,cap,by rw [g];rfl,fun _=>⟨rfl,rfl,rfl⟩,fun h=>(by rw [g]at h;cases h),rfl⟩))
   all_goals
    refine Zg<|Zm Y<|Zh 1 Cd V rfl A4 Y<|Xe (Zs A4 Y Y V (hi:=by(simp;done))) ?_;refine Z0<|Zn [5,8] ?_;refine Zx<|Zg<|Zh 2 Cd V rfl DP Y<|Xe (Zs DP Y Y V (hi:=by(simp;done))) ?_;refine A6<|A2<|Zo Wh (A7 (cs:=#[_,_,_]) D0 BE Y BW (by exact AP V)) ?_;refine Xe (Ao BE Y Y Ft Wu (by exact Bj rfl) DO AH (by exact Aw _)) ?_;refine AM Y<|Bo rfl dp Y Wh (Ai D0 BE Wn (AP rfl)) Y (by(have g:=yj (n:=mQ q (afQ q c)) z J I;exact ⟨p,n,cap,by rw [g];rfl,fun _=>⟨rfl,rfl,rfl⟩,fun h=>(by rw [g]at h;cases h),rfl⟩))
  have J:(afQ q c).isSome=false:=by simpa using O
  refine AB<|BT<|Zo Wh (A7 (cs:=#[_,_,_]) D0 BE Y BW (by exact AP V)) ?_;refine Xe (Ao BE Y Y Ft Wu (by exact Bj rfl) DO AH (by exact Aw _)) ?_;refine AM Y<|Bo rfl dp Y Wh (Ai D0 BE Wn (AP rfl)) Y (by(have g:=yh (n:=mQ q (afQ q c)) z J;exact ⟨p,n,cap,by rw [g];rfl,fun _=>⟨rfl,rfl,rfl⟩,fun h=>(by rw [g]at h;cases h),rfl⟩))
set_option maxHeartbeats 2000000 in
theorem oM{M:List AR}(hv:CZ M v rows)(hl:rows.length<=1000000)(c:Chg)(hh:c.had=true):CJ prog 194 #[v,.agg c.Ax2] [M] (fun w H'=>∃rv s,w= .tuple #[rv,.bool true]/\BS 5 91 rv (BU (otP c (Bl rows))).length (Aa (BU (otP c (Bl rows)))) s/\H'=[s,M]):=by
 have l8:=mL;obtain ⟨p,cap,rfl,⟨kv,kz⟩,hg⟩:=id hv;have lv:=Gj rows
 refine Se func194 ntmps194 [0,1] ?_;intro u R;refine A2<|Ze (Bx #[_,_,_,_,_,_,_,_,_,_])<|AE fun b1=>Za Y<|CT Y<|A2<|Zh 2 CM V rfl DP Y<|Zl Fc Y ?_;refine Zv (CR Y)<|A6<|Af Y (fun h0=>?_) (fun h0=>?_);·
  rw [hh]at h0;cases h0
 refine AB<|BT<|Zo Wh (A7 (cs:=c.Ax2) G1 D2 Y (by exact B4 _) (by exact AP V)) ?_;refine Xr [_] Y call77 Y V (IK c) ?_;refine Sk 3 V<|Ze (Al DS #[_,_,_,_,_])<|AE fun gy=>Xe (Xw AW c.after.Ax3) ?_;refine AN Y<|Zn [0,3,6,7] ?_;refine BT<|CT Y<|A2<|AF Y<|AQ<|Bi<|Zb [8,9,0,3,6,7] ?_;refine Av (e0:=[(8,_),(9,_)]) (fun m e H=>∃(k:Nat) (ov:A3) (so:List AR),m=rows.length -2*k/\(2*k<=rows.length/\BS 5 91 ov (BU (otP c ((Bl rows).take k))).length (Aa (BU (otP c ((Bl rows).take k)))) so)/\e=[(8,ov),(9,I4 ((2*k:Nat):Int))]/\H=[so]) (by exact ⟨0,.slice none 0 0,[],rfl,⟨CD _,by rw [Hh];unfold otP;split<;>exact BX 5 _⟩,rfl,rfl⟩) Wp ?_;rintro _ _ _ ⟨k,ov,so,rfl,⟨hk,W⟩,rfl,rfl⟩;obtain ⟨op,oc,rfl⟩:=W.form;refine C0 Y<|Ya (n:=1) Y Y<|Zm Y<|Zv (AJ B0 Y)<|Zv (Ak Y Y)<|A6<|Ad Y (fun d9=>?_) (fun d9=>?_);·
  obtain ⟨x,y,hx,hy,O⟩:=Yd (rows:=rows) (k:=k) A0;obtain ⟨g,off,cur,T,zz,ax,Z,mR,bf⟩:=KP hv hx;obtain ⟨g2,gq,gm,T2,o9,I,af,o8,bn⟩:=KP hv hy;rw [ax]at I;injection I with I
  injection I with e1 e2 _
  subst e1 e2;rw [ax];have l9:(BU (otP c ((Bl rows).take k))).length<=2*k:=by
   rw [Dh];have h9:=iK c ((Bl rows).take k)
   rw [CI]at h9;omega
  refine B3<|Zq<|AQ<|Zq<|Au (n:=9) (0::0::2::7::15::31::0::64::255::[]) 0 AG AG V<|A1 0 V (AA Y)<|A1 1 V (AA Y)<|A1 2 V (Ce (n:=1) Y Y A0)<|A1 3 V (A9 B0 AW Y Y A0)<|A1 4 V (Aj (off:=1) F1 V rfl A4 Y)<|CX (D':=63) 5 V rfl V (GK Wo (af)) (BZ A5 Y (by exact IU (j:=1) bn V)) ?_;refine A1 6 V (AL (off:=1) CM V rfl A4 Y)<|B6 7 V A5 Y ?_;refine A1 8 V (ED Y Y)<|Am<|Zn [0,3,6,7,8,9,33] ?_;refine Zx<|Ad Y (fun J=>?_) (fun J=>?_);·
   have G:EW c.k ⟨x,y⟩=false:=yL J;refine Au (n:=13) (0::0::0::6::14::0::0::64::224::480::1022::2047::4095::[]) 3072 AG AG V<|A1 0 V (AA Y)<|A1 1 V (AA Y)<|A1 2 V (AA Y)<|A1 3 V (A9 B0 AW Y Y A0)<|CX (D':=31) 4 V rfl V (GK Wo (Z)) (A7 (cs:=x.Ax3) C5 AW Y A0 (by exact bf)) ?_;refine A1 5 V (AA Y)<|A1 6 V (AA Y)<|A1 7 V (Ce (n:=1) Y Y A0)<|A1 8 V (A9 B0 AW Y Y A0)<|CX (D':=1023) 9 V rfl V (GK Wo (af)) (A7 (cs:=y.Ax3) C5 AW Y A0 (by exact bn)) ?_;refine Yw 10 2047 V (Ah (vs:=[_,_]) (cs:=[_,_,_,_,_,_,_,_,_,_]) B0 AW DS Y V rfl V rfl V)<|AE fun gb=>Yw 11 4095 V (BL (by_:=40) (sz:=5) B0 (V:Tryz.prog.info? 91=some Tryz.t91) V rfl V rfl Y (W) Y (D7 5 gb 2 2 91 (0,0) [I4 x.t,I4 x.k,I4 x.v.a,I4 x.v.b,I4 x.v.c,I4 y.t,I4 y.k,I4 y.v.a,I4 y.v.b,I4 y.v.c] V) Wo Wo HH A0 A0) ?_;rintro _ _ ⟨U,z,rfl⟩;obtain ⟨cO,cu,rfl⟩:=z.form;refine A1 12 V (Aq Y)<|Am<|Zn [0,3,6,7,8,9] ?_;refine A8<|Zx<|Zg<|Zm Y<|Ya (n:=2) Y Y<|AN Y<|Zn [8,9,0,3,6,7] ?_;refine Ac (e':=[(8,_),(9,_)]) (by(have X:=ut c O G;exact ⟨k+1,_,U,rfl,⟨by omega,by rw [X,Em];exact BJ z (by rw [C7];rfl) (by rw [BR];rfl)⟩,rfl,rfl⟩))
  have G:EW c.k ⟨x,y⟩=true:=yK J;refine B7 Y<|A6<|Af Y (fun K=>?_) (fun K=>?_);·
   have E:c.has=true:=by simpa using K
   refine Au (n:=9) (0::0::0::6::14::0::62::127::255::[]) 192 AG AG V<|A1 0 V (AA Y)<|A1 1 V (AA Y)<|A1 2 V (AA Y)<|A1 3 V (A9 B0 AW Y Y A0)<|CX (D':=31) 4 V rfl V (GK Wo (Z)) (A7 (cs:=x.Ax3) C5 AW Y A0 (by exact bf)) ?_;refine Fo 5 V Wh (A7 (cs:=#[_,_,_,_,_]) C5 AW Y (by exact B4 _) (by exact AP V)) ?_;refine Yw 6 127 V (Ah (vs:=[_,_]) (cs:=[_,_,_,_,_,_,_,_,_,_]) B0 AW DS Y V rfl V rfl V)<|AE fun gb=>Yw 7 255 V (BL (by_:=40) (sz:=5) B0 (V:Tryz.prog.info? 91=some Tryz.t91) V rfl V rfl Y (W) Y (D7 5 gb 2 2 91 (0,0) [I4 x.t,I4 x.k,I4 x.v.a,I4 x.v.b,I4 x.v.c,I4 c.after.t,I4 c.after.k,I4 c.after.v.a,I4 c.after.v.b,I4 c.after.v.c] V) Wo Wo HH A0 A0) ?_;rintro _ _ ⟨U,z,rfl⟩;rw [Hl E]at z;obtain ⟨cO,cu,rfl⟩:=z.form;refine A1 8 V (Aq Y)<|Am<|A8<|Zx<|Zg<|Zm Y<|Ya (n:=2) Y Y<|AN Y<|Zn [8,9,0,3,6,7] ?_;refine Ac (e':=[(8,_),(9,_)]) (by(have X:=yB c O G E;exact ⟨k+1,_,U,rfl,⟨by omega,by rw [X,Em];exact BJ z (by rw [C7];rfl) (by rw [BR];rfl)⟩,rfl,rfl⟩))
  have E:c.has=false:=by simpa using K
  refine AB<|A8<|Zx<|Zg<|Zm Y<|Ya (n:=2) Y Y<|AN Y<|Zn [8,9,0,3,6,7] ?_;refine Ac (e':=[(8,_),(9,_)]) (by(have X:=yC c O G E;exact ⟨k+1,_,so,rfl,⟨by omega,by rw [X];exact W⟩,rfl,rfl⟩))
 have ek:(Bl rows).take k=Bl rows:=Hx A0;rw [ek]at W⊢;refine Az<|Zt<|Zt<|AU<|BT<|Sk 2 V<|AM Y<|Cn V results194 Y Y (by exact ⟨_,so,V,W,V⟩)
end Go.Proofs.YtljkoipiekbijaaGreatDoor
