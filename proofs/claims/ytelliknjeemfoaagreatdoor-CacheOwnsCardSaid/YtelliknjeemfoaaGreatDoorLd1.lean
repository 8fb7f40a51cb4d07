/- The helpers of the laws of chapter 18. -/
import Derived.Test.YtelliknjeemfoaaGreatDoorPy10
set_option linter.unusedVariables false
set_option linter.unusedSimpArgs false
namespace Go.Proofs.YtelliknjeemfoaaGreatDoor
open Go.Proofs.Tryz
open Go Go.RowKit Gw
set_option maxRecDepth 100000
attribute [local irreducible] Gw.At Gw.Nx Gw.Ops
def GY(x0 x1 x2 x3 x4:Int):QM:=
 if CL x0 7=0 then⟨((1+CL x0 7:Nat):Int),(CL (x0.tdiv 7) 3:Int),0,((1+CL x1 9:Nat):Int),((1+CL x1 9:Nat):Int),0,0⟩
 else⟨((1+CL x0 7:Nat):Int),(CL (x0.tdiv 7) 3:Int),(CL x1 4:Int),(CL x2 12:Int) -3,(CL x2 12:Int) -3+(CL x3 14:Int),if 3<=CL x0 7 then((1+CL x4 3:Nat):Int)else 0,if CL x0 7=6 then(CL (x4.tdiv 3) 3:Int)else 0⟩
theorem dG(g m G I B:Int):BG (GY g m G I B):=by
 have a0:=EK g 7 An;have J:=EK (g.tdiv 7) 3 An
 have K:=EK m 9 An;have O:=EK m 4 An
 have U:=EK G 12 An;have W:=EK I 14 An
 have X:=EK B 3 An;have Z:=EK (B.tdiv 3) 3 An
 unfold GY;split;· exact Uh A0
 · split<;>split<;>exact Uh A0
theorem Hu(c:Int)(n:Nat)(hn:0<n)(m:n<=1000000)(B:-9223372036854775808<=c)(h2:c<=9223372036854775807):Az prog 17 #[I0 c,I0 (n:Int)] [] (I0 (CL c n:Int)):=by
 refine Se func17 ntmps17 [0,1] ?_;intro u R;refine A3<|AH Y<|B7 Y<|Zv (Dz Y Y)<|A5<|Ap Y (fun g=>?_) (fun g=>?_);focus
  refine Zg<|Zm Y<|Yi Y Y ?_;refine Ba (iZ Y (IntWalk.i64_in _ A0))<|Za Y<|Z0 ?_
 rotate_left
 focus
  refine AC ?_
 all_goals
  refine Zx<|AN Y<|Zm Y<|Ba (zF Y Y A0 rfl)<|Ax Y<|AX rfl results17 Y (by exact ⟨by rw [<-qi];simp [*],rfl⟩)
set_option maxHeartbeats 1000000 in
theorem qR(g G q2 J I:Int)(K:-9223372036854775808<=g)(O:g<=9223372036854775807)(Z:-9223372036854775808<=G)(af:G<=9223372036854775807)(ax:-9223372036854775808<=q2)(bn:q2<=9223372036854775807)(cu:-9223372036854775808<=J)(cO:J<=9223372036854775807)(U:-9223372036854775808<=I)(W:I<=9223372036854775807):Az prog 6 #[.agg #[I0 g,I0 G,I0 q2,I0 J,I0 I]] [] (.agg #[I0 (GY g G q2 J I).kd,I0 (GY g G q2 J I).tb,I0 (GY g G q2 J I).cl,I0 (GY g G q2 J I).lo,I0 (GY g G q2 J I).hi,I0 (GY g G q2 J I).bq,I0 (GY g G q2 J I).ot]):=by
 have B:=O7 7 An K O;have d9:=EK (g.tdiv 7) 3 An
 have X:=O7 3 An U W;have gm:=EK (I.tdiv 3) 3 An
 have ic:=EK g 7 An;have j3:=EK G 9 An
 have ek:=EK G 4 An;have j5:=EK q2 12 An
 have kv:=EK J 14 An;have l5:=EK I 3 An
 refine Se func6 ntmps6 [0] ?_;intro u R;refine A3<|Ze (Bx #[_,_,_,_,_])<|AF fun bx=>Ze (Al Q1 #[_,_,_,_,_,_,_])<|AF fun br=>A5<|Zb [1,2] ?_;refine Ch (e0:=[]) (H0:=[]) (fun e H=>∃(bq:Nat),(True)/\e=[(3,I1 bq)]/\H=[[(bq,.cells #[I0 ((1+CL g 7:Nat):Int),I0 (CL (g.tdiv 7) 3:Int),I0 0,I0 0,I0 0,I0 0,I0 0] 31 (0,0))]]) Wp ?hx_1 ?hy_1
 case hx_1=>
  refine Aw (n:=11) (0::1::3::7::0::16::48::119::255::0::1023::[]) 1668 AD AD rfl<|A1 0 rfl (BK (j:=0) bm A6 Y Y PC)<|Bk 1 rfl AE Y ?_;refine A1 4 rfl (BK (j:=0) bm A6 Y Y PC)<|Bk 5 rfl AE Y ?_;refine A1 6 V (rE (m:=g) (n:=7) Y Y An (IntWalk.i64_in _ (by have:=O7 7 An K O;omega)))<|Zz (l:=[2,9])<|C0 [true,false] [(5,(_,_))] V rfl (Zu [_,_] Y SZ Y V (Hu g 7 An An K O)) ?hk_2 (fun _ _ h=>h.elim) ?hl_2
  case' hk_2=>
   rintro _ _ ⟨rfl,rfl⟩;refine CA<|A1 3 V (EW (m:=1) Y Y A0)<|Zz (l:=[7,9])<|C0 [false] [] V rfl (Zu [_,_] Y SZ Y V (Hu (g.tdiv 7) 3 An An B.1 B.2)) ?hk_3 (fun _ _ h=>h.elim) ?hl_3
   case' hk_3=>
    rintro _ _ ⟨rfl,rfl⟩;refine CA<|A1 8 V (BM (vs:=[(0,I0 ((1+CL g 7:Nat):Int)),(1,I0 (CL (g.tdiv 7) 3:Int))]) (cs:=#[I0 ((1+CL g 7:Nat):Int),I0 (CL (g.tdiv 7) 3:Int),I0 0,I0 0,I0 0,I0 0,I0 0]) Y (Aa (pl:=#[(0,1),(1,1),(2,1),(3,1),(4,1),(5,1),(6,1)]) Q1 DB (fun _=>by kernel_rfl) AD))<|Yw 9 1023 V (Al Q1 #[_,_,_,_,_,_,_])<|AF fun bq=>Yw 10 2047 V (Xw D4 #[I0 ((1+CL g 7:Nat):Int),I0 (CL (g.tdiv 7) 3:Int),I0 0,I0 0,I0 0,I0 0,I0 0])<|F1<|Ao<|Hx (by exact ⟨bq,trivial,V,V⟩)
   case' hl_3=>
    refine C0 [true] [(5,(_,_))] V rfl (Al Q1 #[_,_,_,_,_,_,_]) ?hk_7 (fun _ _ h=>h.elim) ?hl_7
    case' hk_7=>
     rintro _ _ ⟨bq,rfl,rfl⟩;refine ⟨Zk (Ac),?_⟩
    case' hl_7=>
     exact Am
  case' hl_2=>
   refine C0 [true,true] [(5,(_,_)),(1,(_,_))] V rfl (Al Q1 #[_,_,_,_,_,_,_]) ?hk_11 (fun _ _ h=>h.elim) ?hl_11
   case' hk_11=>
    rintro _ _ ⟨bq,rfl,rfl⟩;refine CA<|Yz 2 3 631 [5,1] [true,false] [(5,(_,_))] V Y V rfl V rfl (Zu [_,_] Y SZ Y V (Hu g 7 An An K O))<|F1<|CA<|A1 3 V (EW (m:=1) Y Y A0) ?_
   case' hl_11=>
    exact Am
  all_goals
   refine Yw 7 767 V (Zu [_,_] Y SZ Y V (Hu (g.tdiv 7) 3 An An B.1 B.2))<|F1<|A1 8 V (BM (vs:=[(0,I0 ((1+CL g 7:Nat):Int)),(1,I0 (CL (g.tdiv 7) 3:Int))]) (cs:=#[I0 ((1+CL g 7:Nat):Int),I0 (CL (g.tdiv 7) 3:Int),I0 0,I0 0,I0 0,I0 0,I0 0]) Y (Aa (pl:=#[(0,1),(1,1),(2,1),(3,1),(4,1),(5,1),(6,1)]) Q1 DB (fun _=>by kernel_rfl) AD))<|Yw 10 2047 V (Xw D4 #[I0 ((1+CL g 7:Nat):Int),I0 (CL (g.tdiv 7) 3:Int),I0 0,I0 0,I0 0,I0 0,I0 0])<|F1<|Ao<|Hx (by exact ⟨bq,trivial,V,V⟩)
 rintro _ _ ⟨bq,_,rfl,rfl⟩;refine Zq<|A3<|Zh 0 DB V rfl A6 Y<|Zl AE Y ?_;refine Zv (Bl (n:=1) Y Y)<|A5<|Ap Y (fun k1=>?_) (fun k1=>?_);·
  refine A3<|Ba (BK (j:=1) bm A6 Y Y PC)<|Zl AE Y ?_;refine Xr [_,_] Y SZ Y V (Hu G 9 An An Z af) ?_;refine Ya (m:=1) Y Y<|Zh 3 DB V rfl A6 Y<|Xe (Zs A6 Y Y V (hi:=by(simp;done))) ?_;refine A5<|A3<|Zh 3 DB V rfl A6 Y<|Zl AE Y ?_;refine Zh 4 DB V rfl A6 Y<|Xe (Zs A6 Y Y V (hi:=by(simp;done))) ?_;refine Z0<|Zn [2,3] ?_;refine CD<|Zo Wh (AA (cs:=#[_,_,_,_,_,_,_]) FG D4 Y B9 (by exact Au V)) ?_;refine Xe (BF D4 Y Y HT Wu (by exact D9 rfl) Fm An (by exact BA _)) ?_;refine A5<|AJ<|Zt<|Cv V results6 Y Wh (Av FG D4 Wn (Au V)) (by
   refine ⟨?_,V⟩;unfold GY;rw [B0 A0]<;>rfl)
 refine AC<|CD<|Ba (BK (j:=1) bm A6 Y Y PC)<|Zl AE Y ?_;refine Xr [_,_] Y SZ Y V (Hu G 4 An An Z af) ?_;refine Zh 2 DB V rfl A6 Y<|Xe (Zs A6 Y Y V (hi:=by(simp;done))) ?_;refine A5<|A3<|Ba (BK (j:=2) bm A6 Y Y PC)<|Zl AE Y ?_;refine Xr [_,_] Y SZ Y V (Hu q2 12 An An ax bn) ?_
 (refine Ba (Gu Y Y (IntWalk.i64_in _ ?_)) ?_;(focus (omega)))
 refine Zh 3 DB V rfl A6 Y<|Xe (Zs A6 Y Y V (hi:=by(simp;done))) ?_;refine Z0<|Zn [1,2,3] ?_;refine Zx<|Zq<|Aw (n:=8) (0::1::0::4::12::31::63::127::[]) 144 AD AD V<|A1 0 V (AB (off:=3) DB V rfl A6 Y)<|Bk 1 V AE Y ?_;refine A1 2 rfl (BK (j:=3) bm A6 Y Y PC)<|Bk 3 rfl AE Y ?_;refine Yz 4 12 31 [3,1] [false,true] [(1,(_,_))] V Y V rfl V rfl (Zu [_,_] Y SZ Y V (Hu J 14 An An cu cO)) ?_;rintro _ _ ⟨rfl,rfl⟩;refine ⟨Zk (Ac),?_⟩
 (refine FB (D':=63) 5 (JX Y Y (IntWalk.i64_in _ ?_)) ?_;(focus (omega)))
 refine A1 6 V (AB (off:=4) DB V rfl A6 Y)<|Zz (l:=[7])<|C0 [false] [] V rfl (Zs A6 Y Y V (hi:=by(simp;done))) ?_ (fun _ _ h=>h.elim) Am;rintro _ _ ⟨rfl,rfl⟩;refine CA<|Ao<|Zx<|Zb [1,2,3] ?_;refine Ch (e0:=[]) (H0:=[[(bq,.cells #[I0 ((1+CL g 7:Nat):Int),I0 (CL (g.tdiv 7) 3:Int),I0 (CL G 4:Int),I0 ((CL q2 12:Int) -3),I0 ((CL q2 12:Int) -3+(CL J 14:Int)),I0 0,I0 0] 31 (0,0))]]) (fun e H=>∃(w5:Int),(w5=if 3<=CL g 7 then((1+CL I 3:Nat):Int)else 0)/\e=[]/\H=[[(bq,.cells #[I0 ((1+CL g 7:Nat):Int),I0 (CL (g.tdiv 7) 3:Int),I0 (CL G 4:Int),I0 ((CL q2 12:Int) -3),I0 ((CL q2 12:Int) -3+(CL J 14:Int)),I0 w5,I0 0] 31 (0,0))]]) Wp ?hx_19 ?hy_19
 case' hx_19=>
  refine A3<|Zh 0 DB V rfl A6 Y<|Zl AE Y ?_;refine Zv (G8 (n:=4) Y Y)<|A5<|Ap Y (fun k2=>?_) (fun k2=>?_);focus
   refine Zg<|Ba (BK (j:=4) bm A6 Y Y PC)<|Zl AE Y ?_;refine Xr [_,_] Y SZ Y V (Hu I 3 An An U W) ?_;refine Ya (m:=1) Y Y<|Zh 5 DB V rfl A6 Y<|Xe (Zs A6 Y Y V (hi:=by(simp;done))) ?_;refine Z0<|Zn [1,2,3] ?_
  rotate_left
  refine AC<|Hx (by exact ⟨0,(As A0).symm,V,V⟩)
 case' hy_19=>
  rintro _ _ ⟨w5,gq,rfl,rfl⟩;refine Zb [1,2,3] ?_;refine Ch (e0:=[(1,_)]) (H0:=[[(bq,.cells #[I0 ((1+CL g 7:Nat):Int),I0 (CL (g.tdiv 7) 3:Int),I0 (CL G 4:Int),I0 ((CL q2 12:Int) -3),I0 ((CL q2 12:Int) -3+(CL J 14:Int)),I0 w5,I0 0] 31 (0,0))]]) (fun e H=>∃(w6:Int),(w6=if CL g 7=6 then(CL (I.tdiv 3) 3:Int)else 0)/\e=[]/\H=[[(bq,.cells #[I0 ((1+CL g 7:Nat):Int),I0 (CL (g.tdiv 7) 3:Int),I0 (CL G 4:Int),I0 ((CL q2 12:Int) -3),I0 ((CL q2 12:Int) -3+(CL J 14:Int)),I0 w5,I0 w6] 31 (0,0))]]) Wp ?hx_22 ?hy_22
  case' hx_22=>
   refine A3<|Zh 0 DB V rfl A6 Y<|Zl AE Y ?_;refine Zv (Bl (n:=7) Y Y)<|A5<|Ap Y (fun k3=>?_) (fun k3=>?_);focus
    refine Zg<|Ba (BK (j:=4) bm A6 Y Y PC)<|Zl AE Y ?_;refine Zv (rE (m:=I) (n:=3) Y Y An (IntWalk.i64_in _ (by have:=O7 3 An U W;omega)))<|Xr [_,_] Y SZ Y V (Hu (I.tdiv 3) 3 An An X.1 X.2) ?_;refine Zh 6 DB V rfl A6 Y<|Xe (Zs A6 Y Y V (hi:=by(simp;done))) ?_;refine Z0<|Zn [2,3] ?_
   rotate_left
   refine AC<|Hx (by exact ⟨0,(As A0).symm,V,V⟩)
  case' hy_22=>
   rintro _ _ ⟨w6,gy,rfl,rfl⟩;refine A3<|Zo Wh (AA (cs:=#[_,_,_,_,_,_,_]) FG D4 Y B9 (by exact Au V)) ?_;refine Xe (BF D4 Y Y HT Wu (by exact D9 rfl) Fm An (by exact BA _)) ?_;refine A5<|AJ<|Cv V results6 Y Wh (Av FG D4 Wn (Au V)) (by
    refine ⟨?_,V⟩;unfold GY;rw [As A0,<-gq,<-gy]<;>rfl)
 all_goals
  refine BU (e':=[]) (by exact ⟨_,(B0 A0).symm,V,V⟩)
variable{M:List A8}{cap:Nat}{l:List BJ}{q:QM}
set_option maxHeartbeats 1000000 in
theorem Td{p:B8}(J:EQ M (.slice p l.length cap) l)(g:Ew l)(U:l.length<=1000000)(a:Nat)(O:a<=l.length)(hq:BG q)(B:(CR (BP (l.take a)) q).length<=100)(te:Int)(K:AK)(X:Nat×Nat):BQ prog 9 #[.slice p l.length cap,I0 (a:Int),.agg #[I0 q.kd,I0 q.tb,I0 q.cl,I0 q.lo,I0 q.hi,I0 q.bq,I0 q.ot],I0 te] [[(4,.cells (Ec.map Cq).toArray K X)],M] (fun w H'=>∃(mem:List A8) (I:B8) (G:Nat),Ex mem (.slice I (EY (BP (l.take a)) q).length G) (EY (BP (l.take a)) q)/\CX mem/\w= .agg #[I0 q.kd,I0 q.tb,I0 q.cl,I0 q.lo,I0 q.hi,I0 q.bq,I0 q.ot,I0 te,I0 (a:Int),.slice I (EY (BP (l.take a)) q).length G]/\H'=[mem,[(4,.cells (Ec.map Cq).toArray K X)],M]):=by
 have cO:=mL;obtain ⟨p9,Z,e9,⟨bn,cu⟩,_⟩:=id J;injection e9 with e91 e92 e93
 subst e91 e93;obtain ⟨hs,hn⟩:=g.rows a O;have W:=g.rowsOk a O
 obtain ⟨L,hL⟩:∃L,L=EY (BP (l.take a)) q:=⟨_,rfl⟩;rw [<-hL];refine Se func9 ntmps9 [0,1,2,3] ?_;intro u R;refine A3<|Ze (Bx #[I0 q.kd,I0 q.tb,I0 q.cl,I0 q.lo,I0 q.hi,I0 q.bq,I0 q.ot])<|AF fun bq=>Ze (Dm ON (cs:=#[I0 0,I0 0,I0 0,I0 0,I0 0,I0 0,I0 0,I0 0,I0 0,.slice none 0 0]) AD)<|AF fun be=>A5<|AN Y<|Zm Y<|Zc [_,_] Y call38 Y V (ya J g U a O) ?_;rintro _ _ ⟨_,⟨vs,ss,rfl,hS,rfl⟩,rfl⟩;refine Zm Y<|Zd Y V<|Zd Y V<|Za Y<|AH Y<|AN Y<|Zo Wh (AA (cs:=#[_,_,_,_,_,_,_]) FG D4 Y B9 (by exact Au V)) ?_;refine Zc [_,_] Y call39 Y V (ub _ _ _ _ hS hs hn W q hq B K X) ?_;rintro _ _ ⟨_,⟨vo,mem,rfl,m,hF,rfl⟩,rfl⟩;rw [<-hL]at m;obtain ⟨I,G,rfl,af,ax⟩:=m.form;refine Zm Y<|Zd Y V<|Zd Y V<|Za Y<|B1 Y<|Zn [1,3,6,8,11] ?_;refine CD<|Zo Wh (AA (cs:=#[_,_,_,_,_,_,_]) FG D4 Y B9 (by exact Au V)) ?_;refine Zm Y<|Zm Y<|Zm Y<|Zv (BM (vs:=[(0,.agg #[I0 q.kd,I0 q.tb,I0 q.cl,I0 q.lo,I0 q.hi,I0 q.bq,I0 q.ot]),(1,I0 te),(2,I0 (a:Int)),(3,.slice I L.length G)]) (cs:=#[I0 q.kd,I0 q.tb,I0 q.cl,I0 q.lo,I0 q.hi,I0 q.bq,I0 q.ot,I0 te,I0 (a:Int),.slice I L.length G]) Y (Aa (pl:=#[(0,7),(7,1),(8,1),(9,1)]) ON G4 (fun _=>by kernel_rfl) AD))<|Xe (BF G2 Y Y HT Wu (by exact D9 rfl) Fm An (by exact BA _)) ?_;refine A5<|AJ<|Cv V results9 Y Wh (Av LN G2 Wn (Au V)) (by exact ⟨mem,I,G,m,hF,V,V⟩)
theorem jO{p:B8}(J:EQ M (.slice p l.length cap) l)(m:Ew l)(K:l.length<=1000000)(a:Nat)(X:a<=l.length)(Z:BG q)(g:(CR (BP (l.take a)) q).length<=100)(te:Int)(I:AK)(O:Nat×Nat):BQ prog 9 #[.slice p l.length cap,I0 (a:Int),.agg q.A89,I0 te] [[(4,.cells (Ec.map Cq).toArray I O)],M] (fun w H'=>∃(mem:List A8) (G:B8) (B:Nat),Ex mem (.slice G (EY (BP (l.take a)) q).length B) (EY (BP (l.take a)) q)/\w= .agg #[I0 q.kd,I0 q.tb,I0 q.cl,I0 q.lo,I0 q.hi,I0 q.bq,I0 q.ot,I0 te,I0 (a:Int),.slice G (EY (BP (l.take a)) q).length B]/\H'=[mem,[(4,.cells (Ec.map Cq).toArray I O)],M]):=(Td J m K a X Z g te I O).mono (by
 rintro w H' ⟨mem,G,B,U,_,h2,W⟩;exact ⟨mem,G,B,U,h2,W⟩)
def exQ:QM:=⟨3,0,1,10,19,0,0⟩
theorem TW:BG exQ:=by decide
variable{rs:List AU}
theorem SG(g:BN rs)(hn:rs.length<=2000)(t c:Nat)(lo hi:Int):(Et rs t c lo hi).fits:=by
 have m:=J9 g (t:Int) c;refine ⟨?_,?_,?_,YS g hn t c lo hi⟩
 · show(List.take _ (List.drop _ (BO rs (t:Int) c))).length<=_
   rw [Cl,D0];omega
 · show(Jk _ _ _).length<=_
   have h2:toT (BO rs (t:Int) c) c hi<=(BO rs (t:Int) c).length:=r8 _ _;unfold Jk;rw [Bm,dq];omega
 · show(Xx rs).length<=_
   unfold Xx;rw [Bm];decide
theorem eZ(g:BN rs)(hn:rs.length<=2000)(q:QM):∀x∈EY rs q,x.fits:=fun x hx=>by
 unfold EY at hx;rcases Dg.1 hx with rfl|hx
 · exact SG g hn _ _ _ _
 · split at hx
   · obtain ⟨r,_,rfl⟩:=CM.1 hx
     exact SG g hn _ _ _ _
   · cases hx
structure L9(l:List BJ):Prop where
 ok:Ew l
 len:l.length<=1000
 scan:∀a,a<=l.length->∀q,(CR (BP (l.take a)) q).length<=100
theorem Ew.toB(h:Ew l)(m:l.length<=20):L9 l:=⟨h,by omega,fun a g q=>pO h m g q⟩
variable{a:Nat}
theorem L9.start(h:L9 l)(g:a<=l.length)(m:BG q):Eo q (EY (BP (l.take a)) q)=some (Cf (BP (l.take a)) q):=bQ (h.ok.rows a g).1 (h.ok.rows a g).2 (h.ok.rowsOk a g) m (h.scan a g q)
theorem L9.make_len(h:L9 l)(g:a<=l.length)(q:QM):(EY (BP (l.take a)) q).length<=101:=by
 have m:=lX (BP (l.take a)) q;have h2:=h.scan a g q
 omega
theorem L9.fits(h:L9 l)(g:a<=l.length)(q:QM):∀x∈EY (BP (l.take a)) q,x.fits:=eZ (h.ok.rows a g).1 (h.ok.rows a g).2 q
def oD(l:List BJ)(P:Nat)(win:List BJ):Prop:=win.length<=P/\win.map BJ.pc=((l.take P).drop (P -win.length)).map BJ.pc
theorem RO(l:List BJ)(P:Nat):oD l P []:=⟨C7 _,by
 rw [List.drop_eq_nil_of_le (by simp only [Cl,Mp];omega)]⟩
variable{P:Nat}{r:BJ}
theorem jc{W W':List BJ}{x:BJ}(h:oD l P W)(hx:l[P]?=some x)(g:r.pc=x.pc)(m:Iy W W' r):oD l (P+1) W':=by
 obtain ⟨J,h2⟩:=h;have G:=(C6.1 hx).1
 have I:(l.take P).length=P:=by rw [Cl];omega
 unfold oD;rw [Bq hx];rcases m with⟨rfl,B⟩|⟨rfl,B⟩
 · rw [C2,G0,show P+1 -(W.length+1)=P -W.length by omega,jx A0,CN,CN,h2,RC,RC,g]
   exact ⟨by omega,V⟩
 · have e:((W++[r]).drop 1).length=64:=by rw [D0,C2,G0];omega
   have e1:(W++[r]).drop 1=W.drop 1++[r]:=jx A0;have e2:(l.take P++[x]).drop (P+1 -64)=(l.take P).drop (P+1 -64)++[x]:=jx A0
   rw [e,e1,e2,CN,CN,l4,h2,<-l4,cS,show P -W.length+1=P+1 -64 by omega,RC,RC,g];exact ⟨by omega,V⟩
theorem M5{win:List BJ}(h:oD l P win)(m:a<=P)(B:P -a<=win.length):(DZ (P:Int) (a:Int) win).map BJ.pc=(GJ l a P).map BJ.pc:=by
 obtain ⟨g,h2⟩:=h;unfold DZ GJ;rw [show((P:Int) -(a:Int)).toNat=P -a by omega,l4,h2,<-l4,cS,show P -win.length+(win.length -(P -a))=a by omega,gn]
structure I7(l:List BJ)(P:Nat)(c:CZ):Prop where
 ok:c.ok
 pos:c.pos=(P:Int)
 le:P<=l.length
 win:oD l P c.win
 src:∀x∈c.its,∃a:Nat,x.base=(a:Int)/\a<=l.length/\x.L=EY (BP (l.take a)) x.q
theorem I7.at{l:List BJ}(K:L9 l){P:Nat}{c:CZ}(h:I7 l P c){x:ItM}(hx:x∈c.its):∃a:Nat,x.base=(a:Int)/\a<=l.length/\x.L=EY (BP (l.take a)) x.q/\(a<=P->P -a<=c.win.length/\x.res=Cf (BP (l.take P)) x.q/\vS x.q l a (P -a) x.since/\FX x.q (a:Int) 0 (Cf (BP (l.take a)) x.q,(a:Int)) (GJ l a P)=some (x.res,x.since))/\(P<=a->x.res=Cf (BP (l.take a)) x.q/\x.since=(a:Int)):=by
 obtain ⟨a,I,h2,J⟩:=h.src x hx;have B:=h.ok.all x hx
 obtain ⟨W,m,g⟩:=B.run;rw [J,K.start h2 B.q]at m;injection m with m
 subst m;have G:=B.reach
 rw [h.pos,I]at g G;refine ⟨a,I,h2,J,fun O=>?_,fun O=>?_⟩
 · have e:=M5 h.win O A0
   rw [OO e]at g;have U:=h.le
   obtain ⟨e1,e2⟩:=PW B.q K.ok h2 (P -a) A0 _ g;rw [show a+(P -a)=P by omega]at e1;exact ⟨by omega,e1,e2,g⟩
 · rw [LB A0]at g
   injection g with g
   exact ⟨(congrArg Prod.fst g).symm,(congrArg Prod.snd g).symm⟩
variable{d c:CZ}{b:Bool}
theorem I7.put(h:I7 l P c)(G:d.ok)(g:c.like d){tn:Int}(B:a<=l.length){R:C8×Int×Bool}(m:tB c d q tn (a:Int) (EY (BP (l.take a)) q) R b):I7 l P d:=by
 refine ⟨G,g.pos.trans h.pos,h.le,by rw [g.win];exact h.win,fun x hx=>?_⟩;rcases m with⟨_,rfl,_⟩|⟨_,_,_,⟨rfl,_⟩|⟨_,y,e,e1,e2,e3,_⟩⟩
 · exact h.src x hx
 · exact h.src x hx
 · rw [e]at hx
   rcases CI.1 hx with hx|hx
   · exact h.src x (GP.1 hx).1
   · rw [CH.1 hx,e1,e2,e3];exact ⟨a,rfl,B,rfl⟩
variable{q2:B8}{cap2:Nat}{zs:List C4}
theorem I7.apply(I:L9 l)(h:I7 l P c)(m:l[P]?=some r)(g:GH c d r.p r.cs q2 cap2 zs):I7 l (P+1) d:=by
 have J:=(C6.1 m).1;have B:=(I.ok P r m).1.pos
 refine ⟨g.ok,by rw [g.pos,B];push_cast;rfl,by omega,jc (r:=⟨r.p,q2,cap2,r.cs⟩) h.win m rfl g.win,fun y hy=>?_⟩;obtain ⟨_,x,hx,hc,_⟩:=g.i1 y hy;obtain ⟨_,_,e1,_,e2,_,_,G⟩:=H5 hc;rw [e1,e2,G];exact h.src x hx
theorem I7.next(m:L9 l)(h:I7 l P c)(B:l[P]?=some r):Dq r.p r.cs/\r.p=c.pos+1:=by
 have g:=(m.ok P r B).1;exact ⟨g.ok,by rw [g.pos,h.pos]⟩
theorem I7.part(h:I7 l P c)(m:d.ok)(g:c.like d)(B:∀x∈d.its,x∈c.its):I7 l P d:=⟨m,g.pos.trans h.pos,h.le,by rw [g.win];exact h.win,fun x hx=>h.src x (B x hx)⟩
theorem aF(lt:Int->Int->Bool):∀(ms:List Int) (r:C8),(ms.foldl (fun r n=>(⟨r.rows,if !r.fnd||lt n r.val then n else r.val,true⟩:C8)) r).rows=r.rows
 |[],_=>rfl
 |n::ms,r=>by rw [W8,aF lt ms]
theorem nK(rs:List AU)(q:QM):(Cf rs q).rows.length<=2*(CR rs q).length:=by
 have g:=TC q (CR rs q) (IG rs q.ot);have hx:∀lt ms,(EZ lt ms).rows=[]:=fun lt ms=>aF lt ms C8.none
 unfold Cf FQ;split;· exact C7 _
 · split
   · exact C7 _
   · split
     · rw [hx];exact C7 _
     · split
       · rw [hx];exact C7 _
       · split
         · exact g
         · show(CR rs q).length<=_;omega
variable{n:Nat}
theorem YM(J:L9 l)(h:I7 l P c)(O:BG q)(G:a<=l.length)(hn:∀b,b<=l.length->(Cf (BP (l.take b)) q).rows.length<=n)(B:(c.pos -(a:Int)).toNat<=c.win.length):(BH q (Cf (BP (l.take a)) q) (a:Int) (DZ c.pos (a:Int) c.win)).1.rows.length<=n:=by
 cases hr:(BH q (Cf (BP (l.take a)) q) (a:Int) (DZ c.pos (a:Int) c.win)).2.2 with
 |false=>
  have g:BH q (Cf (BP (l.take a)) q) (a:Int) (DZ c.pos (a:Int) c.win)=(C8.none,0,false):=by
   unfold BH at hr⊢;split at hr;· cases hr
   · rfl
  rw [g];exact C7 _
 |true=>
  have g:=La hr;rw [h.pos]at g B⊢;by_cases m:a<=P
  · rw [OO (M5 h.win m A0)]at g
    have K:=h.le;have h2:=(PW O J.ok G (P -a) A0 _ g).1
    have I:(BH q (Cf (BP (l.take a)) q) (a:Int) (DZ (P:Int) (a:Int) c.win)).1=_:=h2;rw [I];exact hn _ A0
  · rw [LB A0]
    exact hn a G
def Reach(l:List BJ)(P:Nat)(c:CZ)(q:QM)(a:Nat):Prop:=P -a<=c.win.length/\∃st,FX q (a:Int) 0 (Cf (BP (l.take a)) q,(a:Int)) (GJ l a P)=some st
theorem VA(h:P<=a):Reach l P c q a:=⟨by omega,(Cf (BP (l.take a)) q,(a:Int)),by
 rw [show GJ l a P=[] by unfold GJ;rw [show P -a=0 by omega,MT]];rfl⟩
def oH(l:List BJ)(P:Nat)(c d:CZ)(q:QM)(tn:Int)(a:Nat)(n:Nat)(b:Bool):Prop:=
 (b=false/\d=c/\¬Reach l P c q a)\/
 (b=true/\Reach l P c q a/\(∀e∈d.PL,e∈c.PL\/e.sz<=1+(n:Int))/\
   ((d=c/\∃x∈c.its,x.key=str (Cs q)/\(a:Int)<=x.base)\/
    ((∀x∈c.its,x.key=str (Cs q)->x.base<(a:Int))/\∃y:ItM,d.its=(c.its.filter fun x=>x.key≠str (Cs q))++[y]/\y.q=q/\y.base=(a:Int)/\((y.tn=tn/\∀x∈c.its,x.key≠str (Cs q))\/∃x∈c.its,x.key=str (Cs q)/\y.tn=x.tn))))
theorem VB(h:I7 l P c):((c.pos -(a:Int)).toNat<=c.win.length/\(BH q (Cf (BP (l.take a)) q) (a:Int) (DZ c.pos (a:Int) c.win)).2.2=true)↔Reach l P c q a:=by
 rw [h.pos];unfold Reach;rw [show((P:Int) -(a:Int)).toNat=P -a by omega];by_cases g:P -a<=c.win.length
 · have e:FX q (a:Int) 0 (Cf (BP (l.take a)) q,(a:Int)) (DZ (P:Int) (a:Int) c.win)=FX q (a:Int) 0 (Cf (BP (l.take a)) q,(a:Int)) (GJ l a P):=by
    by_cases B:a<=P
    · exact OO (M5 h.win B g)
    · rw [LB A0,show GJ l a P=[] by unfold GJ;rw [show P -a=0 by omega,MT]]
   unfold BH;rw [e];constructor
   · rintro ⟨_,h2⟩
     refine ⟨g,?_⟩;split at h2;· rename_i st h3;exact ⟨st,h3⟩
     · cases h2
   · rintro ⟨_,st,h2⟩
     rw [h2];exact ⟨g,V⟩
 · exact ⟨fun m=>absurd m.1 g,fun m=>absurd m.1 g⟩
variable{k:Nat}
theorem oe(g:L9 l)(h:I7 l P c)(I:BG q)(hk:k<c.ns)(W:k<=1000000)(m:a<=l.length){pg:B8}{cg:Nat}{J:List A8}(hL:Ex J (.slice pg (EY (BP (l.take a)) q).length cg) (EY (BP (l.take a)) q))(af:c.next<1000000000)(B:c.its.length<500)(hn:∀b,b<=l.length->(Cf (BP (l.take b)) q).rows.length<=n)(bn:1+(n:Int)<=c.z.fr)(K:AK)(zp:Nat×Nat):
 BQ prog 10 #[.pointer (some ⟨c.cp,0,none⟩),.agg #[I0 q.kd,I0 q.tb,I0 q.cl,I0 q.lo,I0 q.hi,I0 q.bq,I0 q.ot,I0 (k:Int),I0 (a:Int),.slice pg (EY (BP (l.take a)) q).length cg]] [c.mem,J,[(1,.cells (Lib.pow10Tab.map fun z=>Value.int .u64 z).toArray K zp)]] (fun w H'=>∃(b:Bool) (d:CZ),w= .bool b/\I7 l P d/\c.like d/\(c.next<=d.next/\d.next<=c.next+1)/\oH l P c d q (k:Int) a n b/\H'=[d.mem,J,[(1,.cells (Lib.pow10Tab.map fun z=>Value.int .u64 z).toArray K zp)]]):=by
 have X:=g.len;refine (z7 h.ok I hk W (a:Int) ⟨by omega,by omega⟩ hL (by have:=g.make_len m q;omega) (g.fits m q) (g.start m I) af B (fun ax=>by have:=YM g h I m hn ax;omega) K zp).mono ?_;rintro w H' ⟨b,d,rfl,hd,G,Z,hP,rfl⟩;refine ⟨b,d,V,h.put hd G m hP,G,Z,?_,V⟩;rcases hP with⟨O,h2,U⟩|⟨O,h2,U,h4⟩
 · exact .inl ⟨O,h2,fun h9=>U ((VB h).2 h9)⟩
 · refine .inr ⟨O,(VB h).1 h2,fun e he=>(U e he).imp id fun h9=>by have:=YM g h I m hn h2.1;omega,?_⟩
   rcases h4 with h4|⟨h4,y,e1,e2,e3,_,_,_,e4⟩
   · exact .inl h4
   · exact .inr ⟨h4,y,e1,e2,e3,e4⟩
theorem fE(G:L9 l)(h:I7 l P c)(I:l[P]?=some r){m:List A8}(K:CE m (.slice r.q r.cs.length r.cap) r.cs):BQ prog 11 #[.pointer (some ⟨c.cp,0,none⟩),.agg #[I0 r.p,.slice r.q r.cs.length r.cap]] [c.mem,m] (fun w H'=>∃(d:CZ) (q2:B8) (cap2:Nat) (zs:List C4) (tv:A2) (s:List A8),w= .tuple #[tv,I0 0]/\I7 l (P+1) d/\GH c d r.p r.cs q2 cap2 zs/\Row 9 tv (zs.map Value.string) s/\H'=[d.mem,m,s]):=by
 obtain ⟨J,h2⟩:=h.next G I;refine (tQ h.ok K J h2).mono ?_;rintro w H' ⟨d,q2,cap2,zs,tv,s,rfl,B,g,rfl⟩;exact ⟨d,q2,cap2,zs,tv,s,V,h.apply G I B,B,g,V⟩
variable{i:Nat}
theorem Wv{p:B8}(h:EQ M (.slice p l.length cap) l)(G:l[i]?=some r):CE M (.slice r.q r.cs.length r.cap) r.cs/\∃g off cur T zz,p=some ⟨g,off,none⟩/\(g,Obj.cells cur T zz)∈M/\off+i*2+2<=cur.size/\cur.extract (off+i*2) (off+i*2+2)=#[I0 r.p,.slice r.q r.cs.length r.cap]:=by
 obtain ⟨I,m,e,_,B⟩:=h;injection e with e1 e2 e3
 subst e1 e3;exact B i r G
theorem Xg(g:1<=q.kd/\q.kd<=4)(r:C8)(cs:List Chg):(Be q r cs).2.2=true:=by
 obtain ⟨B,m⟩:=Rq g cs r;unfold Be;rw [m]
theorem sZ{K:C4}(g:∀k,k∈zs↔k=K)(h2:zs.Nodup):zs=[K]:=by
 cases zs with
 |nil=>exact absurd ((g K).2 rfl) B6
 |cons a l=>
  have m:=(g a).1 (Fo ..);subst m;cases l with
  |nil=>rfl
  |cons b l=>
   have B:=(g b).1 B6;subst B;simp at h2
variable{e:AK}{xs:List A2}{v:A2}{s:List A8}
theorem wY(h:Row e v xs s)(hx:0<xs.length):∃g cap cur z,v=I2 g xs.length cap/\s=[(g,.cells cur e z)]/\xs.length<=cur.size/\∀i,i<xs.length->cur[i]?=xs[i]?:=by
 rcases h with⟨_,h0,_⟩|⟨g,cap,cur,z,rfl,rfl,h1,h2,h3,h4,h5⟩
 · rw [h0]at hx;cases hx
 · refine ⟨g,cap,cur,z,rfl,rfl,by omega,fun i hi=>?_⟩
   have h:=congrArg (fun l=>l[i]?) h4;simp only [HU,B0 hi]at h;simpa using h
theorem YE(g:Nat)(v:A2):Row e (I2 g 1 1) [v] [(g,.cells #[v] e (0,0))]:= .inr ⟨g,1,#[v],(0,0),rfl,rfl,CT 1,by decide,rfl,rfl,BA _⟩
theorem wN(h:c.okb)(B:c.ns=1){x:ItM}(hi:c.its=[x])(G:∀e∈c.PL,e.sz<=1):FW c.PL ((0:Nat):Int)=1:=by
 have h2:(c.PL.map (·.key)).Perm (c.its.map ItM.key):=(Sh h.pool.keys h.its.keys).2 h.pk;have m:=h2.length_eq
 rw [Bm,Bm,hi]at m
 match hP:c.PL,m with
 |[e],_=>
  have g:e∈c.PL:=by rw [hP];simp
  have I:=h.pool.te e g;have J:=h.pool.sz e g
  have K:=G e g;unfold FW;rw [RC,List.sum_singleton,B0 A0];omega
def exD(k a b:Int):Chg:=⟨0,k,false,⟨0,0,0⟩,true,⟨a,b,7⟩⟩
def aI(p1 p2:B8):List BJ:=[⟨1,p1,1,[exD 5 10 2]⟩,⟨2,p2,1,[exD 6 11 9]⟩]
variable{p:Int}
theorem xM{k a b:Int}(g:1<=p/\p<=10000)(h:(exD k a b).ok):Dq p [exD k a b]:=⟨g,⟨CT _,by show 1<=8;decide⟩,fun i c hc=>by
 match i,hc with
 |0,hc=>injection hc with hc;rw [<-hc];exact h
 |i+1,hc=>simp at hc,fun i b c m hc=>by simp at hc⟩
theorem jL{k a b:Int}(m:1<=p+1/\p+1<=10000)(h:(exD k a b).ok)(g:GR rs (exD k a b))(hz:Gr rs [exD k a b]<=2000):KM rs p (p+1) [exD k a b]:=⟨xM m h,rfl,fun c hc=>by rw [CH.1 hc];exact g,hz⟩
def exS:Nat->List AU
 |0=>[]
 |1=>[⟨0,5,⟨10,2,7⟩⟩]
 |_=>[⟨0,5,⟨10,2,7⟩⟩,⟨0,6,⟨11,9,7⟩⟩]
theorem Vt(g m:B8):BP ((aI g m).take 0)=exS 0/\BP ((aI g m).take 1)=exS 1/\BP ((aI g m).take 2)=exS 2:=⟨rfl,by kernel_rfl,by kernel_rfl⟩
theorem yL(m B:B8):Ew (aI m B):=fun i r g=>by
 obtain ⟨h0,G,_⟩:=Vt m B
 match i,g with
 |0,g=>injection g with g;subst g;rw [h0];exact ⟨jL (p:=0) An An (by unfold GR;decide) An,by show 1<=3;decide⟩
 |1,g=>injection g with g;subst g;rw [G];exact ⟨jL (p:=1) An An (by unfold GR;decide) An,by show 1<=3;decide⟩
 |i+2,g=>simp [aI]at g
structure tE(l:List BJ):Prop where
 b:L9 l
 len:l.length=2
 e2:(Cf (BP (l.take 2)) exQ).val=2
 e1:(Cf (BP (l.take 1)) exQ).val=1
 two:∃r,l[1]?=some r/\(∃ch∈r.cs,Cr exQ ch=true)/\RU exQ r=true
theorem Ti(rs:List AU):(Cf rs exQ).rows=[]:=rfl
theorem uX(g m:B8):tE (aI g m):=by
 obtain ⟨_,B,h2⟩:=Vt g m;refine ⟨(yL g m).toB (by show 2<=20;decide),rfl,by rw [h2];decide,by rw [B];decide,_,rfl,⟨exD 6 11 9,.head _,by decide⟩,?_⟩;exact (by decide:[exD 6 11 9].any (Dj exQ)=true)
theorem Vp(hi:c.its=[])(g:c.PL=[]){tn:Int}(B:P<=a)(m:oH l P c d q tn a n b):b=true/\∃y:ItM,d.its=[y]/\y.q=q/\y.key=str (Cs q)/\y.base=(a:Int)/\∀e∈d.PL,e.sz<=1+(n:Int):=by
 rcases m with⟨_,_,h⟩|⟨h1,_,h2,⟨_,x,hx,_⟩|⟨_,y,h3,h4,h5,_⟩⟩
 · exact absurd (VA B) h
 · rw [hi]at hx;cases hx
 · refine ⟨h1,y,by rw [h3,hi];rfl,h4,by unfold ItM.key;rw [h4],h5,fun e G=>?_⟩
   rcases h2 e G with h9|h9
   · rw [g]at h9;cases h9
   · exact h9
theorem qC(h:Row e v xs s)(hn:xs.length=n)(h0:0<n):∃g cap cur z,v=I2 g n cap/\s=[(g,.cells cur e z)]/\n<=cur.size/\∀i,i<n->cur[i]?=xs[i]?:=by
 subst hn;exact wY h h0
theorem iT(h:Row e v xs s)(hn:xs.length=n):∃p cap,v= .slice p n cap:=by
 subst hn;obtain ⟨p,cap,h⟩:=h.form;exact ⟨p,cap,h⟩
variable{cs:List Chg}
theorem A15(g:GH c d p cs q2 cap2 zs){y:ItM}(hi:c.its=[y])(B:U8 cs y)(m:y.base<p):zs=[y.key]:=sZ (fun k=>by
 rw [g.z1,hi];constructor;· rintro ⟨x,hx,rfl,_⟩;rw [CH.1 hx]
 · rintro rfl;exact ⟨y,by simp,rfl,B,m⟩) g.z2
theorem vv(g:GH c d p cs q2 cap2 zs)(m:∀x∈c.its,p<=x.base):zs=[]:=mu.2 fun k B=>by
 obtain ⟨x,hx,_,_,h⟩:=(g.z1 k).1 B;have:=m x hx
 omega
theorem jF(J:GH c d p cs q2 cap2 zs){y:ItM}(hi:c.its=[y])(W:p -64<=y.base)(X:1<=y.q.kd/\y.q.kd<=4):∃m,d.its=[m]/\m.q=y.q/\m.key=y.key/\m.base=y.base:=by
 obtain ⟨m,G,hc⟩:=J.i2 y (by rw [hi];simp) W fun _ _=>Xg X _ _;have K:=J.ok.its.keys
 have g:∀w∈d.its,w=m:=fun w O=>by
  obtain ⟨_,x,hx,B,_⟩:=J.i1 w O;rw [hi]at hx;rw [CH.1 hx]at B;exact Ga K O G ((IU B).trans (IU hc).symm)
 obtain ⟨_,_,e1,_,e2,_⟩:=H5 hc;refine ⟨m,?_,e1,IU hc,e2⟩;have I:=K
 match hE:d.its,G,I with
 |[w],_,_=>rw [g w (by rw [hE];simp)]
 |w::w2::L,_,I=>
  have U:=g w (by rw [hE];simp);have h2:=g w2 (by rw [hE];simp)
  rw [U,h2]at I;simp at I
theorem aV{g:Nat}{T:AK}{z:Nat×Nat}{cur:AM}{c:Chg}(B:(g,Obj.cells cur T z)∈M)(G:10<=cur.size)(m:cur.extract 0 10=c.A87):CE M (I2 g [c].length 1) [c]:=⟨_,_,rfl,by show 1<=maxLen;decide,fun i x hx=>by
 match i,hx with
 |0,hx=>injection hx with hx;subst hx;exact ⟨g,0,cur,T,z,rfl,B,by omega,by simpa using m⟩
 |i+1,hx=>simp at hx⟩
theorem uW(G I B:Nat):∃(l:List BJ) (M:List A8),M=[(G,Obj.cells #[I0 0,I0 5,.bool false,I0 0,I0 0,I0 0,.bool true,I0 10,I0 2,I0 7] 59 (0,0))]++([(I,Obj.cells #[I0 0,I0 6,.bool false,I0 0,I0 0,I0 0,.bool true,I0 11,I0 9,I0 7] 59 (0,0))]++[(B,Obj.cells #[I0 1,I2 G 1 1,I0 2,I2 I 1 1] 26 (0,0))])/\tE l/\EQ M (I2 B l.length 2) l:=by
 refine ⟨aI (some ⟨G,0,none⟩) (some ⟨I,0,none⟩),_,V,uX _ _,⟨_,_,V,⟨by show 2<=maxLen;decide,CT _⟩,fun i r m=>?_⟩⟩
 match i,m with
 |0,m=>injection m with m;subst m;exact ⟨aV (g:=G) (c:=exD 5 10 2) (.head _) An rfl,B,0,_,_,_,rfl,.tail _ (.tail _ (.head _)),eS rfl,rfl⟩
 |1,m=>injection m with m;subst m;exact ⟨aV (g:=I) (c:=exD 6 11 9) (.tail _ (.head _)) An rfl,B,0,_,_,_,rfl,.tail _ (.tail _ (.head _)),eS rfl,rfl⟩
 |i+2,m=>simp [aI]at m
set_option maxHeartbeats 4000000 in
theorem tW(Tg:AK)(zg:Nat×Nat)(Tp:AK)(zp:Nat×Nat):Az prog 4 #[] [[(4,.cells (Ec.map Cq).toArray Tg zg)],[(1,.cells (Lib.pow10Tab.map fun z=>Value.int .u64 z).toArray Tp zp)]] (.bool true):=by
 have hml:=mL;refine Se func4 ntmps4 [] ?_;intro u R;refine A3<|AH Y<|A3<|Zv (BM (vs:=[(0,_),(1,_),(2,_)]) (cs:=#[_,_,_]) Y (Dt fL K0 A6 V))<|Zv (BM (vs:=[(1,I0 5),(4,.bool true),(5,.agg #[I0 10,I0 2,I0 7])]) (cs:=#[I0 0,I0 5,.bool false,I0 0,I0 0,I0 0,.bool true,I0 10,I0 2,I0 7]) Y (Aa (pl:=#[(0,1),(1,1),(2,1),(3,3),(6,1),(7,3)]) OK CC (fun _=>by kernel_rfl) AD))<|Ze (Ah (vs:=[_]) (cs:=[_,_,_,_,_,_,_,_,_,_]) GO Cd OK Y V rfl V rfl V)<|AF fun g1=>Zv (BM (vs:=[(0,_),(1,_)]) (cs:=#[_,_]) Y (Aa (pl:=#[(0,1),(1,1)]) Tl GF (fun _=>by kernel_rfl) V))<|Zv (BM (vs:=[(0,_),(1,_),(2,_)]) (cs:=#[_,_,_]) Y (Dt fL K0 A6 V))<|Zv (BM (vs:=[(1,I0 6),(4,.bool true),(5,.agg #[I0 11,I0 9,I0 7])]) (cs:=#[I0 0,I0 6,.bool false,I0 0,I0 0,I0 0,.bool true,I0 11,I0 9,I0 7]) Y (Aa (pl:=#[(0,1),(1,1),(2,1),(3,3),(6,1),(7,3)]) OK CC (fun _=>by kernel_rfl) AD))<|Ze (Ah (vs:=[_]) (cs:=[_,_,_,_,_,_,_,_,_,_]) GO Cd OK Y V rfl V rfl V)<|AF fun g2=>Zv (BM (vs:=[(0,_),(1,_)]) (cs:=#[_,_]) Y (Aa (pl:=#[(0,1),(1,1)]) Tl GF (fun _=>by kernel_rfl) V))<|Ze (Ah (vs:=[_,_]) (cs:=[_,_,_,_]) HA Fi Tl Y V rfl V rfl V)<|AF fun g0=>D2 Y<|CK (s1:=[(g2,Obj.cells #[I0 0,I0 6,.bool false,I0 0,I0 0,I0 0,.bool true,I0 11,I0 9,I0 7] 59 (0,0))]) (s2:=[(g0,Obj.cells #[I0 1,I2 g1 1 1,I0 2,I2 g2 1 1] 26 (0,0))]) Wo Wo ?_;refine CK (s1:=[(g1,Obj.cells #[I0 0,I0 5,.bool false,I0 0,I0 0,I0 0,.bool true,I0 10,I0 2,I0 7] 59 (0,0))]) (s2:=([(g2,Obj.cells #[I0 0,I0 6,.bool false,I0 0,I0 0,I0 0,.bool true,I0 11,I0 9,I0 7] 59 (0,0))]++[(g0,Obj.cells #[I0 1,I2 g1 1 1,I0 2,I2 g2 1 1] 26 (0,0))])) Wo Wo ?_;obtain ⟨l,M,hM,hx,pz⟩:=uW g1 g2 g0;rw [<-hM];have za:=hx.len
 rw [show(Value.slice (some ⟨g0,0,none⟩) 2 2:A2)=I2 g0 l.length 2 by rw [za]];obtain ⟨r2,K,wo,Hf⟩:=hx.two;obtain ⟨X,gm,offm,curm,Tm,zm,qy,qx,hszm,Z⟩:=Wv pz K;injection qy with qy
 injection qy with hpm1 hpm2 _
 subst hpm1 hpm2;refine Zg<|Zv (BM (vs:=[(0,I0 3),(2,I0 1),(3,I0 10),(4,I0 19)]) (cs:=#[I0 3,I0 0,I0 1,I0 10,I0 19,I0 0,I0 0]) Y (Aa (pl:=#[(0,1),(1,1),(2,1),(3,1),(4,1),(5,1),(6,1)]) Q1 DB (fun _=>by kernel_rfl) AD))<|Ze (Al Q1 #[_,_,_,_,_,_,_])<|AF fun bq=>Xe (Xw D4 #[I0 3,I0 0,I0 1,I0 10,I0 19,I0 0,I0 0])<|Z0<|Zn [1,2] ?_;refine CD<|Zo Wh (AA (cs:=#[_,_,_,_,_,_,_]) FG D4 Y An (Au V))<|Xr [_] Y call7 Y V (J6 exQ TW Tp zp)<|Zm Y<|Zd Y V<|Zd Y V<|Za Y<|AH Y<|A3<|Ze (Ah (vs:=[_]) (cs:=[_]) DS A6 HX Y V rfl V rfl V)<|AF fun gs=>Zc [_,_,_] Y call8 Y V (rr (sh:=[5]) (YE gs (I0 5)) 1 10 An An An An An) ?_;rintro _ _ ⟨_,⟨c0,rfl,P7,⟨O,o8,hw0⟩,Rl,zk,ow,W,rfl⟩,rfl⟩;have L0:I7 l 1 c0:=⟨P7,Rl,by omega,by rw [hw0];exact RO l 1,fun x G=>by rw [O]at G;cases G⟩
 refine Zm Y<|Zd Y V<|Zd Y V<|Za Y<|B1 Y<|Zn [1,2,3,5,6] ?_;refine CD<|Ze (Ah (vs:=[_]) (cs:=[_]) DS A6 HX Y V rfl V rfl V)<|AF fun MS=>Xr [_,_,_] Y call8 Y V (ul (-1) 10 (I2 MS 1 1) An)<|Zm Y<|Zd Y V<|Zd Y V<|Za Y<|AH Y<|B7 Y<|Zv (BZ Iv Y Y)<|Zm Y<|Ab (t:=55) Y V (fun k1=>by cases k1)<|fun k1=>Zf Y Y<|Yg (Dr (n:=0) Y Y)<|BW Y Y<|Zm Y<|Ae (t:=59) Y V (fun k2=>?_) (fun k2=>?_);·
  exact absurd V k2
 refine Zf Y Y<|Yg (Dr (n:=180) Y Y)<|BW Y Y<|Z0<|Zn [1,2,3,5,62] ?_;refine Zx<|Ap Y (fun k3=>?_) (fun k3=>?_);·
  exact absurd V k3
 refine B4<|AN Y<|Zm Y<|Zo Wh (AA (cs:=#[_,_,_,_,_,_,_]) FG D4 Y An (Au V))<|Zc [_,_,_,_] Y call9 Y V (jO pz hx.b.ok A0 1 A0 TW (hx.b.scan 1 A0 exQ) 0 Tg zg) ?_;rintro _ _ ⟨_,⟨E1,pg1,cg1,sM,rfl,rfl⟩,rfl⟩;have kv:1+((0:Nat):Int)<=c0.z.fr:=by
  have h9:=Wm L0.ok.tookb (B:=0) (by rw [o8];simp);rw [O,W]at h9;simp at h9⊢;omega
 refine Zc [_,_] Y call10 Y rfl (oe hx.b L0 TW (k:=0) (by rw [ow];decide) An (a:=1) A0 sM (by have:=zk;omega) (by rw [O];decide) (n:=0) (fun b hb=>by rw [Ti];decide) kv Tp zp) ?_;rintro _ _ ⟨_,⟨b1,c1,rfl,L1,cu,hnn1,P5,rfl⟩,rfl⟩;obtain ⟨rfl,y1,j3,j5,qw,gq,hsz1⟩:=Vp O o8 A0 P5;rw [<-cu.cp];have zb:c1.ns=1:=cu.ns.trans ow
 have qa:c1.z.cap=10:=cu.cap.trans W;have hnx1:c1.next<=11:=by omega
 refine AH Y<|AN Y<|Zm Y ?_;have af:=XF L1.ok (x:=y1) (by rw [j3];simp) (by rw [gq,L1.pos];omega)
 rw [qw]at af;refine Zc [_,_] Y call12 Y V (af) ?_;rintro _ _ ⟨_,⟨z1,l1,s1,HZ,hpc1,hzo1,rfl,rfl⟩,rfl⟩;obtain ⟨a1,e11,e12,e13,e14,MJ⟩:=L1.at hx.b (x:=y1) (by rw [j3];simp);obtain rfl:a1=1:=by omega
 have Y2:z1.a.res.val=1:=by rw [HZ];show y1.res.val=1;rw [(MJ A0).1,j5];exact hx.e1
 have Ta:z1.a.until_=1:=by rw [HZ];show c1.pos=1;rw [L1.pos];rfl
 refine Zm Y<|Zd Y V<|Zd Y V<|Ze (Al L7 #[_,_,_,_,_,_,_,_,_,_,_,_,_,_,_])<|AF fun ba=>Xe (Xw ID z1.A90)<|B1 Y<|Zn [1,2,3,5,9,10,11] ?_;refine Zx<|AN Y<|Zm Y<|Ba (AZ (j:=1) HA Fi Y Y A0)<|CO (Gn Wo (qx)) (AA (cs:=#[_,_]) Hh Fi Y A0 Z) V rfl<|Zc [_,_] Y call11 Y V (fE hx.b L1 K X) ?_;rintro _ _ ⟨_,⟨c2,q22,MC,zs2,tv2,sT2,rfl,L2,U,pg,rfl⟩,rfl⟩;have m:r2.p=c1.pos+1:=(L1.next hx.b K).2
 rw [L1.pos]at m;have LP:zs2=[y1.key]:=A15 U j3 (by unfold U8;rw [j5];exact wo) (by rw [gq,m];omega)
 rw [LP,qw]at pg;obtain ⟨gt,capt,sj,zt,rfl,rfl,hszt,Qd⟩:=qC pg (n:=1) rfl An;have vw:sj[0]?=some (.string (str (Cs exQ))):=Qd 0 An
 rw [<-U.cp];obtain ⟨y2,wz,qz,x9,gy⟩:=jF U j3 (by rw [gq];omega) (by rw [j5];decide);rw [j5]at qz;rw [qw]at x9;rw [gq]at gy;have zf:c2.ns=1:=U.ns.trans zb
 have qb:c2.z.cap=10:=U.zcap.trans qa;have hnx2:c2.next<=12:=by rw [U.next];omega
 refine Zm Y<|Zd Y V<|Zd Y V<|Za Y<|AH Y<|AN Y<|Zm Y ?_;have ax:=XF L2.ok (x:=y2) (by rw [wz];simp) (by rw [gy,L2.pos];omega)
 rw [x9]at ax;refine Zc [_,_] Y call12 Y V (ax) ?_;rintro _ _ ⟨_,⟨z2,l2,s2,r9,zq,hzo2,rfl,rfl⟩,rfl⟩;obtain ⟨a2,e21,e22,e23,MK,e25⟩:=L2.at hx.b (x:=y2) (by rw [wz];simp);obtain rfl:a2=1:=by omega
 obtain ⟨e241,sw,l9,_⟩:=MK A0;have hv2:z2.a.res.val=2:=by rw [r9];show y2.res.val=2;rw [sw,qz];exact hx.e2
 have T9:z2.a.since=2:=by
  rw [r9];show y2.since=2
  rw [qz]at l9;obtain ⟨⟨a1,a2⟩,_,a4⟩:=l9;rcases (by omega:y2.since=2\/y2.since<=1)with h9|h9
  · exact h9
  · have ht:=a4 1 r2 A0 An K
    rw [Hf]at ht;cases ht
 have Qe:z2.a.recs.length=1:=by
  rw [r9];show l2.length=1
  have h9:=congrArg List.length zq;rw [Bm,Bm,O3 (by rw [L2.pos,gy];omega),L2.pos,gy]at h9;omega
 refine Zm Y<|Zd Y V<|Zd Y V<|Ze (Al L7 #[_,_,_,_,_,_,_,_,_,_,_,_,_,_,_])<|AF fun bb=>Xe (Xw ID z2.A90)<|B1 Y<|Zn [1,2,3,5,9,10,11,12,13,14,15] ?_;refine Zx<|AN Y<|Zm Y<|Ba (AZ (j:=1) HA Fi Y Y A0)<|CO (Gn Wo (qx)) (AA (cs:=#[_,_]) Hh Fi Y A0 Z) rfl rfl<|Xr [_,_] Y call11 Y rfl (QX L2.ok.tookb X (L1.next hx.b K).1 (by rw [m,L2.pos];omega))<|Zm Y<|Zd Y rfl<|Zd Y rfl<|Za Y<|AH Y<|AN Y<|Zc [_,_] Y call18 Y rfl (ud L2.ok 1 An) ?_;rintro _ _ ⟨_,⟨rfl,c3,Pn,vo,⟨g,o9,hw3⟩,zl,ek,d9,J,hcm3,rfl⟩,rfl⟩;rw [<-vo];have L3:I7 l 1 c3:=⟨Pn,zl,by omega,by rw [hw3];exact RO l 1,fun x G=>by rw [g]at G;cases G⟩
 rw [zf]at d9;rw [qb]at J;replace ek:c3.next<=13:=by rw [ek];omega
 refine A5<|AN Y<|Zc [_] Y call22 Y V (xt L3.ok.tookb) ?_;rintro _ _ ⟨_,⟨zs3,sk3,p9,_,Gl,rfl⟩,rfl⟩;rw [g]at p9;have Mx:zs3=[]:=p9.eq_nil
 subst Mx;obtain ⟨pk3,ck3,rfl⟩:=iT Gl (n:=0) rfl;refine Zv (AR Dd Y)<|Zv (Bl (n:=0) Y Y)<|Zm Y<|Ae (t:=102) Y V (fun k4=>?_) (fun k4=>?_);·
  refine Zf Y Y<|Xr [_] Y call21 Y V (zE c3) ?_;rw [zl];refine Yg (Bl (n:=1) Y Y)<|BT Y Y<|B1 Y<|Zn [1,2,3,5,9,10,11,12,13,14,15,17,18] ?_;refine Zx<|AN Y<|Zm Y<|Zo Wh (AA (cs:=#[_,_,_,_,_,_,_]) FG D4 Y An (Au V))<|Zc [_,_,_,_] Y call9 Y V (jO pz hx.b.ok A0 2 A0 TW (hx.b.scan 2 A0 exQ) 0 Tg zg) ?_;rintro _ _ ⟨_,⟨E2,pg2,cg2,sO,rfl,rfl⟩,rfl⟩;have l8:1+((0:Nat):Int)<=c3.z.fr:=by
   have h9:=Wm L3.ok.tookb (B:=0) (by rw [o9];simp);rw [g,J]at h9;simp at h9⊢;omega
  refine Zc [_,_] Y call10 Y rfl (oe hx.b L3 TW (k:=0) (by rw [d9];decide) An (a:=2) A0 sO (by have:=ek;omega) (by rw [g];decide) (n:=0) (fun b hb=>by rw [Ti];decide) l8 Tp zp) ?_;rintro _ _ ⟨_,⟨b4,c4,rfl,L4,cO,hnn4,P6,rfl⟩,rfl⟩;obtain ⟨rfl,y4,ql,zu,y9,ic,Gw⟩:=Vp g o9 A0 P6;rw [<-cO.cp];have zi:c4.ns=1:=cO.ns.trans d9
  have qj:c4.z.cap=10:=cO.cap.trans J;have hnx4:c4.next<=14:=by omega
  refine AH Y<|AN Y<|Zm Y ?_;have vz:=lw L4.ok (x:=y4) (by rw [ql];simp) (by rw [ic,L4.pos];omega)
  rw [y9]at vz;refine Xr [_,_] Y call12 Y V (vz)<|Zm Y<|Zd Y V<|Zd Y V<|Ze (Al L7 #[_,_,_,_,_,_,_,_,_,_,_,_,_,_,_])<|AF fun bc=>Xe (Xw ID #[I0 0,I0 0,I0 0,I0 0,I0 0,I0 0,I0 0,.slice none 0 0,I0 0,.bool false,I0 0,I0 0,I0 0,.slice none 0 0,.slice none 0 0])<|B1 Y<|Zn [1,3,5,9,10,11,12,13,14,15,17,18,19,21] ?_;refine Zx<|AN Y<|Zm Y<|Ba (AZ (j:=1) HA Fi Y Y A0)<|CO (Gn Wo (qx)) (AA (cs:=#[_,_]) Hh Fi Y A0 Z) V rfl<|Zc [_,_] Y call11 Y V (fE hx.b L4 K X) ?_;rintro _ _ ⟨_,⟨c5,q52,ME,zs5,tv5,sT5,rfl,L5,I,pq,rfl⟩,rfl⟩;have m:r2.p=c4.pos+1:=(L4.next hx.b K).2
  rw [L4.pos]at m;have MB:zs5=[]:=vv I fun x G=>by rw [ql]at G;rw [CH.1 G,ic];omega
  rw [MB]at pq;obtain ⟨pk5,ck5,rfl⟩:=iT pq (n:=0) rfl;rw [<-I.cp];obtain ⟨y5,qo,FT,yt,q9⟩:=jF I ql (by rw [ic];omega) (by rw [zu];decide);rw [zu]at FT;rw [y9]at yt;rw [ic]at q9;have p8:c5.ns=1:=I.ns.trans zi
  have Ps:c5.z.cap=10:=I.zcap.trans qj;have hnx5:c5.next<=15:=by rw [I.next];omega
  refine Zm Y<|Zd Y V<|Zd Y V<|Za Y<|AH Y<|AN Y<|Zm Y ?_;have bn:=XF L5.ok (x:=y5) (by rw [qo];simp) (by rw [q9,L5.pos];omega)
  rw [yt]at bn;refine Zc [_,_] Y call12 Y V (bn) ?_;rintro _ _ ⟨_,⟨z5,l5,s5,LD,hpc5,hzo5,rfl,rfl⟩,rfl⟩;obtain ⟨a5,e51,e52,e53,e54,MP⟩:=L5.at hx.b (x:=y5) (by rw [qo];simp);obtain rfl:a5=2:=by omega
  have hv5:z5.a.res.val=2:=by rw [LD];show y5.res.val=2;rw [(MP A0).1,FT];exact hx.e2
  have ve:z5.a.base=2:=by rw [LD];show y5.base=2;rw [q9];rfl
  refine Zm Y<|Zd Y V<|Zd Y V<|Ze (Al L7 #[_,_,_,_,_,_,_,_,_,_,_,_,_,_,_])<|AF fun bd=>Xe (Xw ID z5.A90)<|B1 Y<|Zn [3,5,9,10,11,12,13,14,15,17,18,19,21,22,24,25] ?_;refine Zx<|AN Y<|Zm Y<|Ab (t:=133) Y V (fun g1=>?_) (fun g1=>?_);·
   refine Zf Y Y<|BT Y Y<|Zm Y<|Ab (t:=136) Y V (fun g2=>?_) (fun g2=>?_);·
    refine Yf 7 HF V rfl C3 Y<|Yg (Ai (off:=1) E4 V rfl A6 Y)<|Yl AE Y<|Yg (CJ Y Y)<|BT Y Y<|Zm Y<|Ae (t:=142) Y V (fun g3=>?_) (fun g3=>?_);·
     refine Yf 11 HF V rfl A6 Y<|Yl AE Y<|Yg (CJ Y Y)<|BT Y Y<|Zm Y<|Ae (t:=147) Y V (fun g4=>?_) (fun g4=>?_);·
      refine Zf Y Y<|Yg (Bl (n:=0) Y Y)<|BT Y Y<|Zm Y<|Ae (t:=151) Y V (fun g5=>?_) (fun g5=>?_);·
       refine Zf Y Y<|Yg (AR Dd Y)<|Yg (Bl (n:=1) Y Y)<|BT Y Y<|Zm Y<|Ae (t:=156) Y V (fun g6=>?_) (fun g6=>?_);·
        refine Zf Y Y<|HY Y (Bd (j:=0) Dd HD Y Y PC) rfl rfl ?_;refine Yl Kx Y (hv:=by exact vw)<|Zf Y Y<|Yg (VV Y Y)<|BT Y Y<|B1 Y<|Zn [5,14,15,17,18,19,21,22,24,25,26] ?_;refine Zx<|AN Y<|Zm Y<|Ab (t:=164) Y V (fun g8=>?_) (fun g8=>?_);·
         refine Yf 7 HF V rfl C3 Y<|Yg (Ai (off:=1) E4 V rfl A6 Y)<|Yl AE Y<|Yg (CJ Y Y)<|BT Y Y<|Zm Y<|Ae (t:=170) Y V (fun g9=>?_) (fun g9=>?_);·
          refine Yf 10 HF V rfl A6 Y<|Yl AE Y<|Yg (CJ Y Y)<|BT Y Y<|Zm Y<|Ae (t:=175) Y V (fun sD=>?_) (fun sD=>?_);·
           refine Yf 14 HF V rfl N4 Y<|Yl SU Y<|Yg (AR HA Y)<|Yg (Bl (n:=1) Y Y)<|BT Y Y<|Zm Y<|Ae (t:=181) Y V (fun sJ=>?_) (fun sJ=>?_);·
            refine Zf Y Y<|Yg (Bl (n:=180) Y Y)<|BT Y Y<|B1 Y<|Zn [5,18,19,21,22,24,25,26,27] ?_;refine Zx<|AN Y<|Zm Y<|Ae (t:=186) Y V (fun m1=>?_) (fun m1=>?_);·
             refine Zf Y Y<|BT Y Y<|Zm Y<|Ae (t:=189) Y V (fun m2=>?_) (fun m2=>?_);·
              refine Zf Y Y<|BT Y Y<|Zm Y<|Ae (t:=192) Y V (fun m3=>?_) (fun m3=>?_);·
               refine Zf Y Y<|BT Y Y<|Zm Y<|Ab (t:=195) Y V (fun m4=>?_) (fun m4=>?_);·
                refine Zf Y Y<|Yg (Bh Y)<|BT Y Y<|Zm Y<|Ab (t:=199) Y V (fun m5=>?_) (fun m5=>?_);·
                 refine Zf Y Y<|Yg (AR Dd Y)<|Yg (Bl (n:=0) Y Y)<|BT Y Y<|Zm Y<|Ae (t:=204) Y V (fun m6=>?_) (fun m6=>?_);·
                  refine Zf Y Y<|BT Y Y<|Zm Y<|Ab (t:=207) Y V (fun m7=>?_) (fun m7=>?_);·
                   refine Yf 7 HF V rfl C3 Y<|Yg (Ai (off:=1) E4 V rfl A6 Y)<|Yl AE Y<|Yg (CJ Y Y)<|BT Y Y<|Zm Y<|Ae (t:=213) Y V (fun m8=>?_) (fun m8=>?_);·
                    refine Yf 12 HF V rfl A6 Y<|Yl AE Y<|Yg (CJ Y Y)<|BT Y Y<|Zm Y<|Ae (t:=218) Y V (fun m9=>?_) (fun m9=>?_);·
                     refine Zf Y Y<|Xr [_,_] Y call23 Y rfl (xp (k:=0) L5.ok.tookb (by rw [p8];decide)) ?_;rw [wN L5.ok.tookb p8 qo (fun e he=>Gw e (I.PL e he))];refine Yg (Bl (n:=1) Y Y)<|BT Y Y<|B1 Y<|Zn [0] ?_;refine Zx<|AJ<|AX V results4 Y (by exact ⟨V,V⟩)
                    exact absurd ve m9
                   exact absurd hv5 m8
                  cases m7
                 exact absurd V m6
                cases m5
               cases m4
              exact absurd V m3
             exact absurd V m2
            exact absurd V m1
           exact absurd Qe sJ
          exact absurd T9 sD
         exact absurd hv2 g9
        cases g8
       exact absurd V g6
      exact absurd V g5
     exact absurd Ta g4
    exact absurd Y2 g3
   cases g2
  cases g1
 exact absurd V k4
def M3(z:Int):Nat:=if z<0 then(-(z+1)).toNat else z.toNat
theorem jV{z:Int}(h:z<0):(-(z+1)).toNat=M3 z:=(B0 h).symm
theorem jU{z:Int}(h:¬z<0):z.toNat=M3 z:=(As h).symm
def yB(had:Bool)(m:Nat):Bool:=!had||decide (0<m%4)
def z6(m:Nat):V3:=⟨((m/4%10:Nat):Int),((1+m/40%9:Nat):Int),((m/400%40:Nat):Int) -20⟩
def jR(gr:AU×Bool)(n m:Nat):Chg:=⟨((n%3:Nat):Int),((1+n/3%9:Nat):Int),gr.2,gr.1.v,yB gr.2 m,if yB gr.2 m then z6 m else V3.zero⟩
def Qc(rs:List AU)(n m:Nat):Chg:=jR (Fu rs ((n%3:Nat):Int) ((1+n/3%9:Nat):Int)) n m
def bZ(c y:Chg):Bool:=decide (y.t=c.t/\y.k=c.k)
def Jt(cs:List Chg)(c:Chg)(k n:Nat):Prop:=cs.any (bZ c)=true\/(c.had=true/\c.has=true/\c.o=c.n)\/(0<k/\n%5=0)
instance(cs:List Chg)(c:Chg)(k n:Nat):Decidable (Jt cs c k n):=inferInstanceAs(Decidable (_\/_))
def Ns(c y:Chg):Prop:=c.t<y.t\/y.t=c.t/\c.k<y.k
instance(c y:Chg):Decidable (Ns c y):=inferInstanceAs(Decidable (_\/_))
def Pk(cs:List Chg)(c:Chg):Nat->Nat
 |0=>0
 |j+1=>match cs[j]?with
  |some y=>if Ns c y then Pk cs c j else j+1
  |none=>j+1
variable{j:Nat}
theorem qh{c y:Chg}(h0:0<j)(hy:cs[j -1]?=some y)(h:Ns c y):Pk cs c j=Pk cs c (j -1):=by
 obtain ⟨k,rfl⟩:∃k,j=k+1:=⟨j -1,by omega⟩;rw [Ss]at hy⊢;rw [Pk,hy];exact B0 h
theorem YT{c y:Chg}(h0:0<j)(hy:cs[j -1]?=some y)(h:¬Ns c y):Pk cs c j=j:=by
 obtain ⟨k,rfl⟩:∃k,j=k+1:=⟨j -1,by omega⟩;rw [Ss]at hy;rw [Pk,hy];exact As h
theorem qg{c:Chg}(h0:¬0<j):Pk cs c j=j:=by
 obtain rfl:j=0:=by omega
 rfl
noncomputable def Uq(rs:List AU)(z:List Int)(k:Nat)(cs:List Chg):List Chg:=
 if Jt cs (Qc rs (M3 (z.getD (2*k) 0)) (M3 (z.getD (2*k+1) 0))) k (M3 (z.getD (2*k) 0))then cs
 else cs.take (Pk cs (Qc rs (M3 (z.getD (2*k) 0)) (M3 (z.getD (2*k+1) 0))) cs.length)++[Qc rs (M3 (z.getD (2*k) 0)) (M3 (z.getD (2*k+1) 0))]++cs.drop (Pk cs (Qc rs (M3 (z.getD (2*k) 0)) (M3 (z.getD (2*k+1) 0))) cs.length)
noncomputable def GM(rs:List AU)(z:List Int):Nat->List Chg
 |0=>[]
 |k+1=>Uq rs z k (GM rs z k)
variable{z:List Int}
theorem RF{n:Int}(h:z[i]?=some n):z.getD i 0=n:=by rw [Q2,h];rfl
theorem Q9{m:Nat}{B G:Int}{c:Chg}(g:cs=GM rs z k)(I:z[2*k]?=some B)(J:z[2*k+1]?=some G)(hn:n=M3 B)(K:m=M3 G)(hc:c=Qc rs n m)(h:Jt cs c k n):cs=GM rs z (k+1):=by
 subst hn K hc;show _=Uq rs z k (GM rs z k)
 unfold Uq;rw [RF I,RF J,<-g,B0 h]
theorem ut{m:Nat}{B G:Int}{c:Chg}(g:cs=GM rs z k)(I:z[2*k]?=some B)(J:z[2*k+1]?=some G)(hn:n=M3 B)(O:m=M3 G)(hc:c=Qc rs n m)(h:¬Jt cs c k n)(K:Pk cs c cs.length=j):cs.take j++[c]++cs.drop j=GM rs z (k+1):=by
 subst hn O hc K;show _=Uq rs z k (GM rs z k)
 unfold Uq;rw [RF I,RF J,<-g,As h]
def YD(L:List (List Chg)):List AU:=L.foldl DI []
theorem YC(l:List BJ):YD (l.map BJ.cs)=BP l:=by unfold YD BP;rw [List.foldl_map]
noncomputable instance(rs:List AU)(p q:Int)(cs:List Chg):Decidable (KM rs p q cs):=Classical.propDecidable _
noncomputable def Ma(L:List (List Chg))(z:List Int):List (List Chg):=
 if KM (YD L) (L.length:Int) ((L.length:Int)+1) (GM (YD L) z 3)then L++[GM (YD L) z 3]else L
noncomputable def Sy(xs:List (List Int)):List (List Chg):=xs.foldl Ma []
theorem Ve{xs:List (List Int)}(hz:xs[i]?=some z):Sy (xs.take (i+1))=Ma (Sy (xs.take i)) z:=by
 unfold Sy;rw [S5,hz,cQ];rfl
theorem xQ{xs:List (List Int)}{g:List BJ}(hz:xs[i]?=some z)(m:g.map BJ.cs=Sy (xs.take i))(hc:r.cs=GM (BP g) z 3)(h:KM (BP g) (g.length:Int) ((g.length:Int)+1) r.cs):(g++[r]).map BJ.cs=Sy (xs.take (i+1)):=by
 rw [Ve hz,<-m];unfold Ma;rw [YC,Bm,<-hc,B0 h,CN];rfl
theorem uc{xs:List (List Int)}{g:List BJ}(hz:xs[i]?=some z)(m:g.map BJ.cs=Sy (xs.take i))(hc:cs=GM (BP g) z 3)(h:¬KM (BP g) (g.length:Int) ((g.length:Int)+1) cs):g.map BJ.cs=Sy (xs.take (i+1)):=by
 rw [Ve hz,<-m];unfold Ma;rw [YC,Bm,<-hc,As h]
theorem vu{p:Chg->Bool}{x:Chg}(hx:cs[i]?=some x):(cs.take (i+1)).any p=((cs.take i).any p||p x):=by
 rw [S5,hx,List.any_append];simp
theorem A11{p:Chg->Bool}{x:Chg}{g:Bool}(hx:cs[i]?=some x)(m:b=(cs.take i).any p)(h:g=(b||p x)):g=(cs.take (i+1)).any p:=by
 rw [vu hx,<-m,h]
end Go.Proofs.YtelliknjeemfoaaGreatDoor
