/- The helpers of the laws of chapter 18. -/
/- What is built on a log, in plain words; the example of chapter 11. -/
/- A cache and a log, in plain words. -/
/- The example of chapter 18. -/
/- Sane. -/
/- The records that integers determine, as a function. -/
import Derived.Test.YteaiajghbkenoaaGreatDoorEz
import Derived.Test.YteaiajghbkenoaaGreatDoorPy10
import Derived.Test.YteaiajghbkenoaaGreatDoorTr6
import Derived.Test.YteaiajghbkenoaaGreatDoorQe1
set_option linter.unusedVariables false
set_option linter.unusedSimpArgs false
namespace Go.Proofs.YteaiajghbkenoaaGreatDoor
open Go.Proofs.Tryz
open Go Go.RowKit Gw
set_option maxRecDepth 100000
attribute [local irreducible] Gw.At Gw.Nx Gw.Ops
def GU(x0 x1 x2 x3 x4:Int):QM:=
 if CJ x0 7=0 then⟨((1+CJ x0 7:Nat):Int),(CJ (x0.tdiv 7) 3:Int),0,((1+CJ x1 9:Nat):Int),((1+CJ x1 9:Nat):Int),0,0⟩
 else⟨((1+CJ x0 7:Nat):Int),(CJ (x0.tdiv 7) 3:Int),(CJ x1 4:Int),(CJ x2 12:Int) -3,(CJ x2 12:Int) -3+(CJ x3 14:Int),if 3<=CJ x0 7 then((1+CJ x4 3:Nat):Int)else 0,if CJ x0 7=6 then(CJ (x4.tdiv 3) 3:Int)else 0⟩
theorem dH(g m G I B:Int):BI (GU g m G I B):=by
 have a0:=EE g 7 AN;have J:=EE (g.tdiv 7) 3 AN
 have K:=EE m 9 AN;have O:=EE m 4 AN
 have U:=EE G 12 AN;have W:=EE I 14 AN
 have X:=EE B 3 AN;have Z:=EE (B.tdiv 3) 3 AN
 unfold GU;split
 · exact Uj A1
 · split<;>split<;>exact Uj A1
theorem IY(c:Int)(n:Nat)(G:0<n)(m:n<=1000000)(B:-9223372036854775808<=c)(h2:c<=9223372036854775807):BJ prog 12 #[I4 c,I4 (n:Int)] [] (I4 (CJ c n:Int)):=by
 refine Se func12 ntmps12 [0,1] ?_;intro u R;refine A0<|A3 Y<|Zq<|A0<|Zm Y<|Zv (Dq Y Y)<|A4<|Av Y (fun g=>?_) (fun g=>?_)
 ·
  refine Zg<|Zm Y<|Yi Y Y ?_
  (refine BX (iQ Y (IntWalk.i64_in _ ?_)) ?_;(focus (omega)))
  refine A3 Y<|A0<|Zm Y<|Zm Y ?_
  (refine BX (qH Y Y ?_ rfl) ?_;(focus (omega)))
  refine A3 Y<|AJ<|AO rfl results12 Y (by exact ⟨by rw [<-YW];simp [*],rfl⟩)
 refine AC<|Zx<|A0<|Zm Y<|Zm Y ?_
 (refine BX (qH Y Y ?_ rfl) ?_;(focus (omega)))
 refine A3 Y<|AJ<|AO rfl results12 Y (by exact ⟨by rw [<-YW];simp [*],rfl⟩)
set_option maxHeartbeats 1000000 in
theorem pO(g G q2 J I:Int)(K:-9223372036854775808<=g)(O:g<=9223372036854775807)(Z:-9223372036854775808<=G)(af:G<=9223372036854775807)(ax:-9223372036854775808<=q2)(bn:q2<=9223372036854775807)(cu:-9223372036854775808<=J)(cO:J<=9223372036854775807)(U:-9223372036854775808<=I)(W:I<=9223372036854775807):BJ prog 10 #[.agg #[I4 g,I4 G,I4 q2,I4 J,I4 I]] [] (.agg #[I4 (GU g G q2 J I).kd,I4 (GU g G q2 J I).tb,I4 (GU g G q2 J I).cl,I4 (GU g G q2 J I).lo,I4 (GU g G q2 J I).hi,I4 (GU g G q2 J I).bq,I4 (GU g G q2 J I).ot]):=by
 have B:=OB 7 AN K O;have d9:=EE (g.tdiv 7) 3 AN
 have X:=OB 3 AN U W;have gm:=EE (I.tdiv 3) 3 AN
 have ic:=EE g 7 AN;have j3:=EE G 9 AN
 have ek:=EE G 4 AN;have j5:=EE q2 12 AN
 have kv:=EE J 14 AN;have l5:=EE I 3 AN
 refine Se func10 ntmps10 [0] ?_;intro u R;refine A0<|Ze (Bx #[_,_,_,_,_])<|AD fun bx=>Ze (Al MY #[_,_,_,_,_,_,_])<|AD fun br=>A4<|Zb [1,2] ?_;refine D7 (e0:=[]) (H0:=[]) (fun e H=>∃(bq:Nat),(True)/\e=[(3,I5 bq)]/\H=[[(bq,.cells #[I4 ((1+CJ g 7:Nat):Int),I4 (CJ (g.tdiv 7) 3:Int),I4 0,I4 0,I4 0,I4 0,I4 0] 28 (0,0))]]) Wp ?hx_1 ?hy_1
 case hx_1=>
  refine Az (n:=11) (0::1::3::7::0::16::48::119::255::0::1023::[]) 1668 A6 A6 V ?_;first|(refine Dl (D':=1) 0 (BH (j:=0) Lk A5 Y Y ?_) ?_;(focus (first|omega|decide|(simp;done))))|(refine Dl (D':=1) 0 (Cm (j:=0) Lk A5 Y Y ?_) ?_;(focus (first|omega|decide|(simp;done))))
  refine B3 1 V AE Y ?_;first|(refine Dl (D':=19) 4 (BH (j:=0) Lk A5 Y Y ?_) ?_;(focus (first|omega|decide|(simp;done))))|(refine Dl (D':=19) 4 (Cm (j:=0) Lk A5 Y Y ?_) ?_;(focus (first|omega|decide|(simp;done))))
  refine B3 5 V AE Y ?_;refine A2 6 V (qI (m:=g) (n:=7) Y Y AN (IntWalk.i64_in _ (by have:=OB 7 AN K O;omega)))<|Zz (l:=[2,9])<|B1 [true,false] [(5,(_,_))] V rfl (Zu [_,_] Y T5 Y V (IY g 7 AN AN K O)) ?_ (fun _ _ h=>h.elim) ?_
  ·
   rintro _ _ ⟨rfl,rfl⟩;refine ⟨Zk (AZ),?_⟩;first|(refine Dl (D':=127) 3 (Dz (m:=1) Y Y ?_) ?_;(focus (omega)))|(refine Dl (D':=127) 3 (H6 Y Y (IntWalk.i64_in _ ?_)) ?_;(focus (omega)))
   refine Zz (l:=[7,9])<|B1 [false] [] V rfl (Zu [_,_] Y T5 Y V (IY (g.tdiv 7) 3 AN AN B.1 B.2)) ?_ (fun _ _ h=>h.elim) ?_
   ·
    rintro _ _ ⟨rfl,rfl⟩;refine B5<|A2 8 V (BK (vs:=[(0,I4 ((1+CJ g 7:Nat):Int)),(1,I4 (CJ (g.tdiv 7) 3:Int))]) (cs:=#[I4 ((1+CJ g 7:Nat):Int),I4 (CJ (g.tdiv 7) 3:Int),I4 0,I4 0,I4 0,I4 0,I4 0]) Y (AY (pl:=#[(0,1),(1,1),(2,1),(3,1),(4,1),(5,1),(6,1)]) MY C6 (fun _=>by kernel_rfl) A6))<|Yw 9 1023 V (Al MY #[_,_,_,_,_,_,_])<|AD fun bq=>Yw 10 2047 V (Xw C7 #[I4 ((1+CJ g 7:Nat):Int),I4 (CJ (g.tdiv 7) 3:Int),I4 0,I4 0,I4 0,I4 0,I4 0])<|CM<|Ai<|Zn [3,1,2] ?_;refine BL (e':=[(3,_)]) (by exact ⟨bq,trivial,V,V⟩)
   refine B1 [true] [(5,(_,_))] V rfl (Al MY #[_,_,_,_,_,_,_]) ?_ (fun _ _ h=>h.elim) Ag;rintro _ _ ⟨bq,rfl,rfl⟩;refine B5<|Yw 7 767 V (Zu [_,_] Y T5 Y V (IY (g.tdiv 7) 3 AN AN B.1 B.2))<|CM<|A2 8 V (BK (vs:=[(0,I4 ((1+CJ g 7:Nat):Int)),(1,I4 (CJ (g.tdiv 7) 3:Int))]) (cs:=#[I4 ((1+CJ g 7:Nat):Int),I4 (CJ (g.tdiv 7) 3:Int),I4 0,I4 0,I4 0,I4 0,I4 0]) Y (AY (pl:=#[(0,1),(1,1),(2,1),(3,1),(4,1),(5,1),(6,1)]) MY C6 (fun _=>by kernel_rfl) A6))<|Yw 10 2047 V (Xw C7 #[I4 ((1+CJ g 7:Nat):Int),I4 (CJ (g.tdiv 7) 3:Int),I4 0,I4 0,I4 0,I4 0,I4 0])<|CM<|Ai<|Zn [3,1,2] ?_;refine BL (e':=[(3,_)]) (by exact ⟨bq,trivial,V,V⟩)
  refine B1 [true,true] [(5,(_,_)),(1,(_,_))] V rfl (Al MY #[_,_,_,_,_,_,_]) ?_ (fun _ _ h=>h.elim) Ag;rintro _ _ ⟨bq,rfl,rfl⟩;refine B5<|Yz 2 3 631 [5,1] [true,false] [(5,(_,_))] V Y V rfl V rfl (Zu [_,_] Y T5 Y V (IY g 7 AN AN K O)) ?_;rintro _ _ ⟨rfl,rfl⟩;refine ⟨Zk (AZ),?_⟩;first|(refine Dl (D':=639) 3 (Dz (m:=1) Y Y ?_) ?_;(focus (omega)))|(refine Dl (D':=639) 3 (H6 Y Y (IntWalk.i64_in _ ?_)) ?_;(focus (omega)))
  refine Yw 7 767 V (Zu [_,_] Y T5 Y V (IY (g.tdiv 7) 3 AN AN B.1 B.2))<|CM<|A2 8 V (BK (vs:=[(0,I4 ((1+CJ g 7:Nat):Int)),(1,I4 (CJ (g.tdiv 7) 3:Int))]) (cs:=#[I4 ((1+CJ g 7:Nat):Int),I4 (CJ (g.tdiv 7) 3:Int),I4 0,I4 0,I4 0,I4 0,I4 0]) Y (AY (pl:=#[(0,1),(1,1),(2,1),(3,1),(4,1),(5,1),(6,1)]) MY C6 (fun _=>by kernel_rfl) A6))<|Yw 10 2047 V (Xw C7 #[I4 ((1+CJ g 7:Nat):Int),I4 (CJ (g.tdiv 7) 3:Int),I4 0,I4 0,I4 0,I4 0,I4 0])<|CM<|Ai<|Zn [3,1,2] ?_;refine BL (e':=[(3,_)]) (by exact ⟨bq,trivial,V,V⟩)
 rintro _ _ ⟨bq,_,rfl,rfl⟩;refine Zq<|A0<|Zh 0 C6 V rfl A5 Y<|Zl AE Y ?_;first|refine BX (Cb (n:=1) Y Y) ?_|refine BX (CP Y Y) ?_
 refine Z0<|Zx ?_;first|refine Av Y (fun k1=>?_) (fun k1=>?_)|refine AV Y (fun k1=>?_) (fun k1=>?_)
 ·
  refine Zq<|Zg ?_;first|(refine BX (BH (j:=1) Lk A5 Y Y ?_) ?_;(focus (first|omega|decide|(simp;done))))|(refine BX (Cm (j:=1) Lk A5 Y Y ?_) ?_;(focus (first|omega|decide|(simp;done))))
  refine Zl AE Y ?_;refine Xr [_,_] Y T5 Y V (IY G 9 AN AN Z af) ?_;first|(refine BX (Dz (m:=1) Y Y ?_) ?_;(focus (omega)))|(refine BX (H6 Y Y (IntWalk.i64_in _ ?_)) ?_;(focus (omega)))
  refine Zh 3 C6 rfl rfl A5 Y<|Xe (Zs A5 Y Y rfl (hi:=by first|omega|decide|(simp;done))) ?_;refine A4<|A0<|Zh 3 C6 V rfl A5 Y<|Zl AE Y ?_;refine Zh 4 C6 rfl rfl A5 Y<|Xe (Zs A5 Y Y rfl (hi:=by first|omega|decide|(simp;done))) ?_;refine Z0<|Zn [2,3] ?_;refine Zx<|A0<|Zo Wh (AA (cs:=#[_,_,_,_,_,_,_]) Dg C7 Y Wb (by exact BN V)) ?_;refine Xe (BM C7 Y Y nv Wu (by exact EJ rfl) E7 Wb (by exact BA _)) ?_;refine A4<|AJ<|Zt<|Ct V results10 Y Wh (Ak Dg C7 Wn (BN V)) (by
   refine ⟨?_,V⟩;unfold GU;rw [AK A1]<;>rfl)
 refine AC<|Zx<|Zq<|Zg ?_;first|(refine BX (BH (j:=1) Lk A5 Y Y ?_) ?_;(focus (first|omega|decide|(simp;done))))|(refine BX (Cm (j:=1) Lk A5 Y Y ?_) ?_;(focus (first|omega|decide|(simp;done))))
 refine Zl AE Y ?_;refine Xr [_,_] Y T5 Y V (IY G 4 AN AN Z af) ?_;refine Zh 2 C6 rfl rfl A5 Y<|Xe (Zs A5 Y Y rfl (hi:=by first|omega|decide|(simp;done))) ?_;refine A4<|Zq<|Zg ?_;first|(refine BX (BH (j:=2) Lk A5 Y Y ?_) ?_;(focus (first|omega|decide|(simp;done))))|(refine BX (Cm (j:=2) Lk A5 Y Y ?_) ?_;(focus (first|omega|decide|(simp;done))))
 refine Zl AE Y ?_;refine Xr [_,_] Y T5 Y V (IY q2 12 AN AN ax bn) ?_;first|(refine BX (CL (n:=3) Y Y ?_ ?_) ?_;(focus (omega));(focus (omega)))|(refine BX (GG Y Y (IntWalk.i64_in _ ?_)) ?_;(focus (omega)))
 refine Zh 3 C6 rfl rfl A5 Y<|Xe (Zs A5 Y Y rfl (hi:=by first|omega|decide|(simp;done))) ?_;refine Z0<|Zn [1,2,3] ?_;refine Zx<|Zq<|Az (n:=8) (0::1::0::4::12::31::63::127::[]) 144 A6 A6 V<|A2 0 V (AB (off:=3) C6 V rfl A5 Y)<|B3 1 V AE Y ?_;first|(refine Dl (D':=7) 2 (BH (j:=3) Lk A5 Y Y ?_) ?_;(focus (first|omega|decide|(simp;done))))|(refine Dl (D':=7) 2 (Cm (j:=3) Lk A5 Y Y ?_) ?_;(focus (first|omega|decide|(simp;done))))
 refine B3 3 V AE Y ?_;refine Yz 4 12 31 [3,1] [false,true] [(1,(_,_))] V Y V rfl V rfl (Zu [_,_] Y T5 Y V (IY J 14 AN AN cu cO)) ?_;rintro _ _ ⟨rfl,rfl⟩;refine ⟨Zk (AZ),?_⟩;first|(refine Dl (D':=63) 5 (Dz Y Y ?_) ?_;(focus (omega)))|(refine Dl (D':=63) 5 (H6 Y Y (IntWalk.i64_in _ ?_)) ?_;(focus (omega)))
 refine A2 6 rfl (AB (off:=4) C6 rfl rfl A5 Y)<|Zz (l:=[7])<|B1 [false] [] rfl rfl (Zs A5 Y Y rfl (hi:=by first|omega|decide|(simp;done))) ?_ (fun _ _ h=>h.elim) Ag;rintro _ _ ⟨rfl,rfl⟩;refine B5<|Ai<|Zx<|Zb [1,2,3] ?_;refine D7 (e0:=[]) (H0:=[[(bq,.cells #[I4 ((1+CJ g 7:Nat):Int),I4 (CJ (g.tdiv 7) 3:Int),I4 (CJ G 4:Int),I4 ((CJ q2 12:Int) -3),I4 ((CJ q2 12:Int) -3+(CJ J 14:Int)),I4 0,I4 0] 28 (0,0))]]) (fun e H=>∃(w5:Int),(w5=if 3<=CJ g 7 then((1+CJ I 3:Nat):Int)else 0)/\e=[]/\H=[[(bq,.cells #[I4 ((1+CJ g 7:Nat):Int),I4 (CJ (g.tdiv 7) 3:Int),I4 (CJ G 4:Int),I4 ((CJ q2 12:Int) -3),I4 ((CJ q2 12:Int) -3+(CJ J 14:Int)),I4 w5,I4 0] 28 (0,0))]]) Wp ?hx_19 ?hy_19
 case hx_19=>
  refine A0<|Zh 0 C6 V rfl A5 Y<|Zl AE Y ?_;first|refine BX (Fw (n:=4) Y Y) ?_|refine BX (H5 Y Y) ?_
  refine Z0<|Zx ?_;first|refine Av Y (fun k2=>?_) (fun k2=>?_)|refine AV Y (fun k2=>?_) (fun k2=>?_)
  ·
   refine Zg ?_;first|(refine BX (BH (j:=4) Lk A5 Y Y ?_) ?_;(focus (first|omega|decide|(simp;done))))|(refine BX (Cm (j:=4) Lk A5 Y Y ?_) ?_;(focus (first|omega|decide|(simp;done))))
   refine Zl AE Y ?_;refine Xr [_,_] Y T5 Y V (IY I 3 AN AN U W) ?_;first|(refine BX (Dz (m:=1) Y Y ?_) ?_;(focus (omega)))|(refine BX (H6 Y Y (IntWalk.i64_in _ ?_)) ?_;(focus (omega)))
   refine Zh 5 C6 rfl rfl A5 Y<|Xe (Zs A5 Y Y rfl (hi:=by first|omega|decide|(simp;done))) ?_;refine Z0<|Zn [1,2,3] ?_;refine BL (e':=[]) (by first|exact ⟨_,(AK A1).symm,rfl,rfl⟩|exact ⟨0,(AH A1).symm,rfl,rfl⟩)
  refine AC<|Zn [1,2,3] ?_;refine BL (e':=[]) (by first|exact ⟨_,(AK A1).symm,rfl,rfl⟩|exact ⟨0,(AH A1).symm,rfl,rfl⟩)
 rintro _ _ ⟨w5,gq,rfl,rfl⟩;refine Zb [1,2,3] ?_;refine D7 (e0:=[(1,_)]) (H0:=[[(bq,.cells #[I4 ((1+CJ g 7:Nat):Int),I4 (CJ (g.tdiv 7) 3:Int),I4 (CJ G 4:Int),I4 ((CJ q2 12:Int) -3),I4 ((CJ q2 12:Int) -3+(CJ J 14:Int)),I4 w5,I4 0] 28 (0,0))]]) (fun e H=>∃(w6:Int),(w6=if CJ g 7=6 then(CJ (I.tdiv 3) 3:Int)else 0)/\e=[]/\H=[[(bq,.cells #[I4 ((1+CJ g 7:Nat):Int),I4 (CJ (g.tdiv 7) 3:Int),I4 (CJ G 4:Int),I4 ((CJ q2 12:Int) -3),I4 ((CJ q2 12:Int) -3+(CJ J 14:Int)),I4 w5,I4 w6] 28 (0,0))]]) Wp ?hx_22 ?hy_22
 case hx_22=>
  refine A0<|Zh 0 C6 V rfl A5 Y<|Zl AE Y ?_;first|refine BX (Cb (n:=7) Y Y) ?_|refine BX (CP Y Y) ?_
  refine Z0<|Zx ?_;first|refine Av Y (fun k3=>?_) (fun k3=>?_)|refine AV Y (fun k3=>?_) (fun k3=>?_)
  ·
   refine Zg ?_;first|(refine BX (BH (j:=4) Lk A5 Y Y ?_) ?_;(focus (first|omega|decide|(simp;done))))|(refine BX (Cm (j:=4) Lk A5 Y Y ?_) ?_;(focus (first|omega|decide|(simp;done))))
   refine Zl AE Y ?_;refine Zv (qI (m:=I) (n:=3) Y Y AN (IntWalk.i64_in _ (by have:=OB 3 AN U W;omega)))<|Xr [_,_] Y T5 Y V (IY (I.tdiv 3) 3 AN AN X.1 X.2) ?_;refine Zh 6 C6 rfl rfl A5 Y<|Xe (Zs A5 Y Y rfl (hi:=by first|omega|decide|(simp;done))) ?_;refine Z0<|Zn [2,3] ?_;refine BL (e':=[]) (by first|exact ⟨_,(AK A1).symm,rfl,rfl⟩|exact ⟨0,(AH A1).symm,rfl,rfl⟩)
  refine AC<|Zn [2,3] ?_;refine BL (e':=[]) (by first|exact ⟨_,(AK A1).symm,rfl,rfl⟩|exact ⟨0,(AH A1).symm,rfl,rfl⟩)
 rintro _ _ ⟨w6,gy,rfl,rfl⟩;refine A0<|Zo Wh (AA (cs:=#[_,_,_,_,_,_,_]) Dg C7 Y Wb (by exact BN V)) ?_;refine Xe (BM C7 Y Y nv Wu (by exact EJ rfl) E7 Wb (by exact BA _)) ?_;refine A4<|AJ<|Ct V results10 Y Wh (Ak Dg C7 Wn (BN V)) (by
  refine ⟨?_,V⟩;unfold GU;rw [AH A1,<-gq,<-gy]<;>rfl)
variable{M:List A9}{l:List BU}{q:QM}
set_option maxHeartbeats 1000000 in
theorem XM{p:Option Addr}{cap:Nat}(J:EW M (.slice p l.length cap) l)(g:F5 l)(U:l.length<=1000000)(a:Nat)(O:a<=l.length)(hq:BI q)(B:(CQ (Bd (l.take a)) q).length<=100)(te:Int)(K:TypeId)(X:Nat×Nat):Ba prog 15 #[.slice p l.length cap,I4 (a:Int),.agg q.A17,I4 te] [[(4,.cells (En.map Co).toArray K X)],M] (fun w H'=>∃(mem:List A9) (I:Option Addr) (G:Nat),Fj mem (.slice I (Ff (Bd (l.take a)) q).length G) (Ff (Bd (l.take a)) q)/\w= .agg #[I4 q.kd,I4 q.tb,I4 q.cl,I4 q.lo,I4 q.hi,I4 q.bq,I4 q.ot,I4 te,I4 (a:Int),.slice I (Ff (Bd (l.take a)) q).length G]/\H'=[mem,[(4,.cells (En.map Co).toArray K X)],M]):=by
 have cO:=mL;obtain ⟨p9,Z,e9,⟨bn,cu⟩,_⟩:=id J;injection e9 with e91 e92 e93
 subst e91 e93;obtain ⟨hs,hn⟩:=g.rows a O;have W:=g.rowsOk a O
 obtain ⟨L,hL⟩:∃L,L=Ff (Bd (l.take a)) q:=⟨_,rfl⟩;rw [<-hL];refine Se func15 ntmps15 [0,1,2,3] ?_;intro u R;refine A0<|Ze (Bx q.A17)<|AD fun bq=>Ze (FC cW (cs:=#[I4 0,I4 0,I4 0,I4 0,I4 0,I4 0,I4 0,I4 0,I4 0,.slice none 0 0]) A6)<|AD fun be=>A4<|A0<|Zm Y<|Zm Y<|Zc [_,_] Y call49 Y V (rK J g U a O) ?_;rintro _ _ ⟨_,⟨vs,ss,rfl,hS,rfl⟩,rfl⟩;refine Zm Y<|Zd Y V<|Zd Y V<|Za Y<|A3 Y<|A0<|Zm Y<|Zo Wh (AA (cs:=#[_,_,_,_,_,_,_]) Dg C7 Y As (by exact BN V)) ?_;refine Zc [_,_] Y call50 Y V (ym _ _ _ _ hS hs hn W q hq B K X) ?_;rintro _ _ ⟨_,⟨vo,mem,rfl,m,rfl⟩,rfl⟩;rw [<-hL]at m;obtain ⟨I,G,rfl,af,ax⟩:=m.form;refine Zm Y<|Zd Y V<|Zd Y V<|Za Y<|AG Y<|Zn [1,3,6,8,11] ?_;refine Zx<|A0<|Zo Wh (AA (cs:=#[_,_,_,_,_,_,_]) Dg C7 Y As (by exact BN V)) ?_;refine Zm Y<|Zm Y<|Zm Y<|Zv (BK (vs:=[(0,.agg q.A17),(1,I4 te),(2,I4 (a:Int)),(3,.slice I L.length G)]) (cs:=#[I4 q.kd,I4 q.tb,I4 q.cl,I4 q.lo,I4 q.hi,I4 q.bq,I4 q.ot,I4 te,I4 (a:Int),.slice I L.length G]) Y (AY (pl:=#[(0,7),(7,1),(8,1),(9,1)]) cW FG (fun _=>by kernel_rfl) A6))<|Xe (BM H4 Y Y HR Wu (by exact EJ rfl) E7 AN (by exact BA _)) ?_;refine A4<|AJ<|Ct V results15 Y Wh (Ak T0 H4 Wn (BN V)) (by exact ⟨mem,I,G,m,V,V⟩)
def exQ:QM:=⟨3,0,1,10,19,0,0⟩
theorem Tk:BI exQ:=by decide
variable{rs:List AU}
theorem SS(g:BP rs)(m:rs.length<=2000)(t c:Nat)(lo hi:Int):(Ej rs t c lo hi).fits:=by
 have B:=JB g (t:Int) c;refine ⟨?_,?_,?_,YT g m t c lo hi⟩
 · show(List.take _ (List.drop _ (BG rs (t:Int) c))).length<=_
   rw [C2,C3];omega
 · show(J9 _ _ _).length<=_
   have h2:toT (BG rs (t:Int) c) c hi<=(BG rs (t:Int) c).length:=nj _ _;unfold J9;rw [B2,aq];omega
 · show(bQ rs).length<=_
   unfold bQ;rw [B2];decide
theorem eP(B:BP rs)(m:rs.length<=2000)(q:QM):∀x∈Ff rs q,x.fits:=fun x g=>by
 unfold Ff at g;rcases D0.1 g with rfl|g
 · exact SS B m _ _ _ _
 · split at g
   · obtain ⟨r,_,rfl⟩:=Bk.1 g
     exact SS B m _ _ _ _
   · cases g
structure O1(l:List BU):Prop where
 ok:F5 l
 len:l.length<=1000
 scan:∀a,a<=l.length->∀q,(CQ (Bd (l.take a)) q).length<=100
theorem F5.toB(h:F5 l)(m:l.length<=20):O1 l:=⟨h,by omega,fun a g q=>oP h m g q⟩
variable{a:Nat}
theorem O1.start(h:O1 l)(g:a<=l.length)(m:BI q):EX q (Ff (Bd (l.take a)) q)=some (Ci (Bd (l.take a)) q):=bT (h.ok.rows a g).1 (h.ok.rows a g).2 (h.ok.rowsOk a g) m (h.scan a g q)
theorem O1.make_len(h:O1 l)(g:a<=l.length)(q:QM):(Ff (Bd (l.take a)) q).length<=101:=by
 have m:=lF (Bd (l.take a)) q;have h2:=h.scan a g q
 omega
theorem O1.fits(h:O1 l)(g:a<=l.length)(q:QM):∀x∈Ff (Bd (l.take a)) q,x.fits:=eP (h.ok.rows a g).1 (h.ok.rows a g).2 q
def nU(l:List BU)(P:Nat)(win:List BU):Prop:=win.length<=P/\win.map BU.pc=((l.take P).drop (P -win.length)).map BU.pc
theorem RV(l:List BU)(P:Nat):nU l P []:=⟨C0 _,by
 rw [List.drop_eq_nil_of_le (by simp only [C2,It];omega)]⟩
variable{P:Nat}{r:BU}
theorem jS{W W':List BU}{x:BU}(h:nU l P W)(m:l[P]?=some x)(g:r.pc=x.pc)(B:Jh W W' r):nU l (P+1) W':=by
 obtain ⟨K,h2⟩:=h;have I:=(BE.1 m).1
 have J:(l.take P).length=P:=by rw [C2];omega
 unfold nU;rw [Bh m];rcases B with⟨rfl,G⟩|⟨rfl,G⟩
 · rw [B7,E0,show P+1 -(W.length+1)=P -W.length by omega,fW A1,BW,BW,h2,LR,LR,g]
   exact ⟨by omega,V⟩
 · have e:((W++[r]).drop 1).length=64:=by rw [C3,B7,E0];omega
   have e1:(W++[r]).drop 1=W.drop 1++[r]:=fW A1;have e2:(l.take P++[x]).drop (P+1 -64)=(l.take P).drop (P+1 -64)++[x]:=fW A1
   rw [e,e1,e2,BW,BW,gE,h2,<-gE,XS,show P -W.length+1=P+1 -64 by omega,LR,LR,g];exact ⟨by omega,V⟩
theorem PT{win:List BU}(h:nU l P win)(m:a<=P)(B:P -a<=win.length):(DC (P:Int) (a:Int) win).map BU.pc=(Od l a P).map BU.pc:=by
 obtain ⟨g,h2⟩:=h;unfold DC Od;rw [show((P:Int) -(a:Int)).toNat=P -a by omega,gE,h2,<-gE,XS,show P -win.length+(win.length -(P -a))=a by omega,eC]
structure IV(l:List BU)(P:Nat)(c:CZ):Prop where
 ok:c.ok
 pos:c.pos=(P:Int)
 le:P<=l.length
 win:nU l P c.win
 src:∀x∈c.its,∃a:Nat,x.base=(a:Int)/\a<=l.length/\x.L=Ff (Bd (l.take a)) x.q
theorem IV.at{l:List BU}(K:O1 l){P:Nat}{c:CZ}(h:IV l P c){x:ItM}(U:x∈c.its):∃a:Nat,x.base=(a:Int)/\a<=l.length/\x.L=Ff (Bd (l.take a)) x.q/\(a<=P->P -a<=c.win.length/\x.res=Ci (Bd (l.take P)) x.q/\uZ x.q l a (P -a) x.since/\GD x.q (a:Int) 0 (Ci (Bd (l.take a)) x.q,(a:Int)) (Od l a P)=some (x.res,x.since))/\(P<=a->x.res=Ci (Bd (l.take a)) x.q/\x.since=(a:Int)):=by
 obtain ⟨a,I,h2,J⟩:=h.src x U;have B:=h.ok.all x U
 obtain ⟨X,m,g⟩:=B.run;rw [J,K.start h2 B.q]at m;injection m with m
 subst m;have G:=B.reach
 rw [h.pos,I]at g G;refine ⟨a,I,h2,J,fun O=>?_,fun O=>?_⟩
 · have e:=PT h.win O A1
   rw [OT e]at g;have W:=h.le
   obtain ⟨e1,e2⟩:=Pg B.q K.ok h2 (P -a) A1 _ g;rw [show a+(P -a)=P by omega]at e1;exact ⟨by omega,e1,e2,g⟩
 · rw [LA A1]at g
   injection g with g
   exact ⟨(congrArg Prod.fst g).symm,(congrArg Prod.snd g).symm⟩
variable{d c:CZ}{b:Bool}
theorem IV.put(h:IV l P c)(I:d.ok)(g:c.like d){tn:Int}(G:a<=l.length){R:CF×Int×Bool}(B:ox c d q tn (a:Int) (Ff (Bd (l.take a)) q) R b):IV l P d:=by
 refine ⟨I,g.pos.trans h.pos,h.le,by rw [g.win];exact h.win,fun x m=>?_⟩;rcases B with⟨_,rfl,_⟩|⟨_,_,_,⟨rfl,_⟩|⟨_,y,e,e1,e2,e3,_⟩⟩
 · exact h.src x m
 · exact h.src x m
 · rw [e]at m
   rcases B9.1 m with m|m
   · exact h.src x (F1.1 m).1
   · rw [BT.1 m,e1,e2,e3];exact ⟨a,rfl,G,rfl⟩
variable{q2:Option Addr}{cap2:Nat}{zs:List ByteArray}
theorem IV.apply(I:O1 l)(h:IV l P c)(m:l[P]?=some r)(g:J2 c d r.p r.cs q2 cap2 zs):IV l (P+1) d:=by
 have J:=(BE.1 m).1;have B:=(I.ok P r m).1.pos
 refine ⟨g.ok,by rw [g.pos,B];push_cast;rfl,by omega,jS (r:=⟨r.p,q2,cap2,r.cs⟩) h.win m rfl g.win,fun y O=>?_⟩;obtain ⟨_,x,K,hc,_⟩:=g.i1 y O;obtain ⟨_,_,e1,_,e2,_,_,G⟩:=Ir hc;rw [e1,e2,G];exact h.src x K
theorem IV.next(m:O1 l)(h:IV l P c)(B:l[P]?=some r):EG r.p r.cs/\r.p=c.pos+1:=by
 have g:=(m.ok P r B).1;exact ⟨g.ok,by rw [g.pos,h.pos]⟩
theorem IV.part(h:IV l P c)(m:d.ok)(g:c.like d)(B:∀x∈d.its,x∈c.its):IV l P d:=⟨m,g.pos.trans h.pos,h.le,by rw [g.win];exact h.win,fun x G=>h.src x (B x G)⟩
theorem aI(lt:Int->Int->Bool):∀(ms:List Int) (r:CF),(ms.foldl (fun r n=>(⟨r.rows,if !r.fnd||lt n r.val then n else r.val,true⟩:CF)) r).rows=r.rows
 |[],_=>rfl
 |n::ms,r=>by rw [TO,aI lt ms]
theorem mY(rs:List AU)(q:QM):(Ci rs q).rows.length<=2*(CQ rs q).length:=by
 have m:=TI q (CQ rs q) (IC rs q.ot);have g:∀lt ms,(ES lt ms).rows=[]:=fun lt ms=>aI lt ms CF.none
 unfold Ci FN;split
 · exact C0 _
 · split
   · exact C0 _
   · split
     · rw [g];exact C0 _
     · split
       · rw [g];exact C0 _
       · split
         · exact m
         · show(CQ rs q).length<=_;omega
variable{n:Nat}
theorem YQ(K:O1 l)(h:IV l P c)(U:BI q)(G:a<=l.length)(I:∀b,b<=l.length->(Ci (Bd (l.take b)) q).rows.length<=n)(B:(c.pos -(a:Int)).toNat<=c.win.length):(BC q (Ci (Bd (l.take a)) q) (a:Int) (DC c.pos (a:Int) c.win)).1.rows.length<=n:=by
 cases hr:(BC q (Ci (Bd (l.take a)) q) (a:Int) (DC c.pos (a:Int) c.win)).2.2 with
 |false=>
  have g:BC q (Ci (Bd (l.take a)) q) (a:Int) (DC c.pos (a:Int) c.win)=(CF.none,0,false):=by
   unfold BC at hr⊢;split at hr
   · cases hr
   · rfl
  rw [g];exact C0 _
 |true=>
  have g:=LZ hr;rw [h.pos]at g B⊢;by_cases m:a<=P
  · rw [OT (PT h.win m A1)]at g
    have O:=h.le;have h2:=(Pg U K.ok G (P -a) A1 _ g).1
    have J:(BC q (Ci (Bd (l.take a)) q) (a:Int) (DC (P:Int) (a:Int) c.win)).1=_:=h2;rw [J];exact I _ A1
  · rw [LA A1]
    exact I a G
def ay(l:List BU)(P:Nat)(c:CZ)(q:QM)(a:Nat):Prop:=P -a<=c.win.length/\∃st,GD q (a:Int) 0 (Ci (Bd (l.take a)) q,(a:Int)) (Od l a P)=some st
theorem VB(h:P<=a):ay l P c q a:=⟨by omega,(Ci (Bd (l.take a)) q,(a:Int)),by
 rw [show Od l a P=[] by unfold Od;rw [show P -a=0 by omega,HX]];rfl⟩
def uh(l:List BU)(P:Nat)(c d:CZ)(q:QM)(tn:Int)(a:Nat)(n:Nat)(b:Bool):Prop:=
 (b=false/\d=c/\¬ay l P c q a)\/
 (b=true/\ay l P c q a/\(∀e∈d.PL,e∈c.PL\/e.sz<=1+(n:Int))/\
   ((d=c/\∃x∈c.its,x.key=str (Cr q)/\(a:Int)<=x.base)\/
    ((∀x∈c.its,x.key=str (Cr q)->x.base<(a:Int))/\∃y:ItM,d.its=(c.its.filter fun x=>x.key≠str (Cr q))++[y]/\y.q=q/\y.base=(a:Int)/\((y.tn=tn/\∀x∈c.its,x.key≠str (Cr q))\/∃x∈c.its,x.key=str (Cr q)/\y.tn=x.tn))))
theorem VC(h:IV l P c):((c.pos -(a:Int)).toNat<=c.win.length/\(BC q (Ci (Bd (l.take a)) q) (a:Int) (DC c.pos (a:Int) c.win)).2.2=true)↔ay l P c q a:=by
 rw [h.pos];unfold ay;rw [show((P:Int) -(a:Int)).toNat=P -a by omega];by_cases g:P -a<=c.win.length
 · have e:GD q (a:Int) 0 (Ci (Bd (l.take a)) q,(a:Int)) (DC (P:Int) (a:Int) c.win)=GD q (a:Int) 0 (Ci (Bd (l.take a)) q,(a:Int)) (Od l a P):=by
    by_cases B:a<=P
    · exact OT (PT h.win B g)
    · rw [LA A1,show Od l a P=[] by unfold Od;rw [show P -a=0 by omega,HX]]
   unfold BC;rw [e];constructor
   · rintro ⟨_,h2⟩
     refine ⟨g,?_⟩;split at h2
     · rename_i st h3;exact ⟨st,h3⟩
     · cases h2
   · rintro ⟨_,st,h2⟩
     rw [h2];exact ⟨g,V⟩
 · exact ⟨fun m=>absurd m.1 g,fun m=>absurd m.1 g⟩
variable{k:Nat}
theorem yn(g:O1 l)(h:IV l P c)(I:BI q)(hk:k<c.ns)(W:k<=1000000)(m:a<=l.length){pg:Option Addr}{cg:Nat}{J:List A9}(hL:Fj J (.slice pg (Ff (Bd (l.take a)) q).length cg) (Ff (Bd (l.take a)) q))(af:c.next<1000000000)(B:c.its.length<500)(hn:∀b,b<=l.length->(Ci (Bd (l.take b)) q).rows.length<=n)(bn:1+(n:Int)<=c.z.fr)(K:TypeId)(zp:Nat×Nat):
 Ba prog 14 #[.pointer (some ⟨c.cp,0,none⟩),.agg #[I4 q.kd,I4 q.tb,I4 q.cl,I4 q.lo,I4 q.hi,I4 q.bq,I4 q.ot,I4 (k:Int),I4 (a:Int),.slice pg (Ff (Bd (l.take a)) q).length cg]] [c.mem,J,[(1,.cells (Lib.pow10Tab.map fun z=>Value.int .u64 z).toArray K zp)]] (fun w H'=>∃(b:Bool) (d:CZ),w= .bool b/\IV l P d/\c.like d/\(c.next<=d.next/\d.next<=c.next+1)/\uh l P c d q (k:Int) a n b/\H'=[d.mem,J,[(1,.cells (Lib.pow10Tab.map fun z=>Value.int .u64 z).toArray K zp)]]):=by
 have X:=g.len;refine (sC h.ok I hk W (a:Int) ⟨by omega,by omega⟩ hL (by have:=g.make_len m q;omega) (g.fits m q) (g.start m I) af B (fun ax=>by have:=YQ g h I m hn ax;omega) K zp).mono ?_;rintro w H' ⟨b,d,rfl,hd,G,Z,hP,rfl⟩;refine ⟨b,d,V,h.put hd G m hP,G,Z,?_,V⟩;rcases hP with⟨O,h2,U⟩|⟨O,h2,U,h4⟩
 · exact .inl ⟨O,h2,fun h9=>U ((VC h).2 h9)⟩
 · refine .inr ⟨O,(VC h).1 h2,fun e he=>(U e he).imp id fun h9=>by have:=YQ g h I m hn h2.1;omega,?_⟩
   rcases h4 with h4|⟨h4,y,e1,e2,e3,_,_,_,e4⟩
   · exact .inl h4
   · exact .inr ⟨h4,y,e1,e2,e3,e4⟩
theorem eZ(G:O1 l)(h:IV l P c)(I:l[P]?=some r){m:List A9}(K:Ck m (.slice r.q r.cs.length r.cap) r.cs):Ba prog 16 #[.pointer (some ⟨c.cp,0,none⟩),.agg #[I4 r.p,.slice r.q r.cs.length r.cap]] [c.mem,m] (fun w H'=>∃(d:CZ) (q2:Option Addr) (cap2:Nat) (zs:List ByteArray) (tv:Value) (s:List A9),w= .tuple #[tv,I4 0]/\IV l (P+1) d/\J2 c d r.p r.cs q2 cap2 zs/\Row 9 tv (zs.map Value.string) s/\H'=[d.mem,m,s]):=by
 obtain ⟨J,h2⟩:=h.next G I;refine (yx h.ok K J h2).mono ?_;rintro w H' ⟨d,q2,cap2,zs,tv,s,rfl,B,g,rfl⟩;exact ⟨d,q2,cap2,zs,tv,s,V,h.apply G I B,B,g,V⟩
variable{i:Nat}
theorem pG{p:Option Addr}{cap:Nat}(h:EW M (.slice p l.length cap) l)(G:l[i]?=some r):Ck M (.slice r.q r.cs.length r.cap) r.cs/\∃g off cur T zz,p=some ⟨g,off,none⟩/\(g,Obj.cells cur T zz)∈M/\off+i*2+2<=cur.size/\cur.extract (off+i*2) (off+i*2+2)=#[I4 r.p,.slice r.q r.cs.length r.cap]:=by
 obtain ⟨I,m,e,_,B⟩:=h;injection e with e1 e2 e3
 subst e1 e3;exact B i r G
theorem Xh(g:1<=q.kd/\q.kd<=4)(r:CF)(cs:List Chg):(BZ q r cs).2.2=true:=by
 obtain ⟨B,m⟩:=Ry g cs r;unfold BZ;rw [m]
theorem rG{K:ByteArray}(g:∀k,k∈zs↔k=K)(h2:zs.Nodup):zs=[K]:=by
 cases zs with
 |nil=>exact absurd ((g K).2 rfl) B0
 |cons a l=>
  have m:=(g a).1 (Dd ..);subst m;cases l with
  |nil=>rfl
  |cons b l=>
   have B:=(g b).1 B0;subst B;simp at h2
variable{e:TypeId}{xs:List Value}{v:Value}{s:List A9}
theorem vV(h:Row e v xs s)(m:0<xs.length):∃g cap cur z,v=I6 g xs.length cap/\s=[(g,.cells cur e z)]/\xs.length<=cur.size/\∀i,i<xs.length->cur[i]?=xs[i]?:=by
 rcases h with⟨_,h0,_⟩|⟨g,cap,cur,z,rfl,rfl,h1,h2,h3,h4,h5⟩
 · rw [h0]at m;cases m
 · refine ⟨g,cap,cur,z,rfl,rfl,by omega,fun i hi=>?_⟩
   have h:=congrArg (fun l=>l[i]?) h4;simp only [H3,AK hi]at h;simpa using h
theorem YI(g:Nat)(v:Value):Row e (I6 g 1 1) [v] [(g,.cells #[v] e (0,0))]:= .inr ⟨g,1,#[v],(0,0),rfl,rfl,CT 1,by decide,rfl,rfl,BA _⟩
theorem vL(h:c.okb)(B:c.ns=1){x:ItM}(hi:c.its=[x])(G:∀e∈c.PL,e.sz<=1):FU c.PL ((0:Nat):Int)=1:=by
 have h2:(c.PL.map (·.key)).Perm (c.its.map ItM.key):=(NX h.pool.keys h.its.keys).2 h.pk;have m:=h2.length_eq
 rw [B2,B2,hi]at m
 match hP:c.PL,m with
 |[e],_=>
  have g:e∈c.PL:=by rw [hP];simp
  have I:=h.pool.te e g;have J:=h.pool.sz e g
  have K:=G e g;unfold FU;rw [LR,List.sum_singleton,AK A1];omega
def exD(k a b:Int):Chg:=⟨0,k,false,⟨0,0,0⟩,true,⟨a,b,7⟩⟩
def aL(p1 p2:Option Addr):List BU:=[⟨1,p1,1,[exD 5 10 2]⟩,⟨2,p2,1,[exD 6 11 9]⟩]
variable{p:Int}
theorem wF{k a b:Int}(g:1<=p/\p<=10000)(h:(exD k a b).ok):EG p [exD k a b]:=⟨g,⟨CT _,by show 1<=8;decide⟩,fun i c hc=>by
 match i,hc with
 |0,hc=>injection hc with hc;rw [<-hc];exact h
 |i+1,hc=>simp at hc,fun i b c m hc=>by simp at hc⟩
theorem jE{k a b:Int}(m:1<=p+1/\p+1<=10000)(h:(exD k a b).ok)(g:GK rs (exD k a b))(hz:Gm rs [exD k a b]<=2000):KN rs p (p+1) [exD k a b]:=⟨wF m h,rfl,fun c hc=>by rw [BT.1 hc];exact g,hz⟩
def exS:Nat->List AU
 |0=>[]
 |1=>[⟨0,5,⟨10,2,7⟩⟩]
 |_=>[⟨0,5,⟨10,2,7⟩⟩,⟨0,6,⟨11,9,7⟩⟩]
theorem Vr(g m:Option Addr):Bd ((aL g m).take 0)=exS 0/\Bd ((aL g m).take 1)=exS 1/\Bd ((aL g m).take 2)=exS 2:=⟨rfl,by kernel_rfl,by kernel_rfl⟩
theorem xJ(m B:Option Addr):F5 (aL m B):=fun i r g=>by
 obtain ⟨h0,G,_⟩:=Vr m B
 match i,g with
 |0,g=>injection g with g;subst g;rw [h0];exact ⟨jE (p:=0) AN AN (by unfold GK;decide) AN,by show 1<=3;decide⟩
 |1,g=>injection g with g;subst g;rw [G];exact ⟨jE (p:=1) AN AN (by unfold GK;decide) AN,by show 1<=3;decide⟩
 |i+2,g=>simp [aL]at g
structure p5(l:List BU):Prop where
 b:O1 l
 len:l.length=2
 e2:(Ci (Bd (l.take 2)) exQ).val=2
 e1:(Ci (Bd (l.take 1)) exQ).val=1
 two:∃r,l[1]?=some r/\(∃ch∈r.cs,Ce exQ ch=true)/\Ra exQ r=true
theorem Tx(rs:List AU):(Ci rs exQ).rows=[]:=rfl
theorem tT(g m:Option Addr):p5 (aL g m):=by
 obtain ⟨_,B,h2⟩:=Vr g m;refine ⟨(xJ g m).toB (by show 2<=20;decide),rfl,by rw [h2];decide,by rw [B];decide,_,rfl,⟨exD 6 11 9,.head _,by decide⟩,?_⟩;exact (by decide:[exD 6 11 9].any (Df exQ)=true)
theorem Vn(hi:c.its=[])(g:c.PL=[]){tn:Int}(B:P<=a)(m:uh l P c d q tn a n b):b=true/\∃y:ItM,d.its=[y]/\y.q=q/\y.key=str (Cr q)/\y.base=(a:Int)/\∀e∈d.PL,e.sz<=1+(n:Int):=by
 rcases m with⟨_,_,h⟩|⟨h1,_,h2,⟨_,x,hx,_⟩|⟨_,y,h3,h4,h5,_⟩⟩
 · exact absurd (VB B) h
 · rw [hi]at hx;cases hx
 · refine ⟨h1,y,by rw [h3,hi];rfl,h4,by unfold ItM.key;rw [h4],h5,fun e G=>?_⟩
   rcases h2 e G with h9|h9
   · rw [g]at h9;cases h9
   · exact h9
theorem OX(h:Row e v xs s)(m:xs.length=n)(h0:0<n):∃g cap cur z,v=I6 g n cap/\s=[(g,.cells cur e z)]/\n<=cur.size/\∀i,i<n->cur[i]?=xs[i]?:=by
 subst m;exact vV h h0
theorem iJ(h:Row e v xs s)(g:xs.length=n):∃p cap,v= .slice p n cap:=by
 subst g;obtain ⟨p,cap,h⟩:=h.form;exact ⟨p,cap,h⟩
variable{cs:List Chg}
theorem yH(g:J2 c d p cs q2 cap2 zs){y:ItM}(hi:c.its=[y])(B:QL cs y)(m:y.base<p):zs=[y.key]:=rG (fun k=>by
 rw [g.z1,hi];constructor
 · rintro ⟨x,G,rfl,_⟩;rw [BT.1 G]
 · rintro rfl;exact ⟨y,by simp,rfl,B,m⟩) g.z2
theorem uu(g:J2 c d p cs q2 cap2 zs)(m:∀x∈c.its,p<=x.base):zs=[]:=pA.2 fun k B=>by
 obtain ⟨x,G,_,_,h⟩:=(g.z1 k).1 B;have:=m x G
 omega
theorem iy(J:J2 c d p cs q2 cap2 zs){y:ItM}(hi:c.its=[y])(X:p -64<=y.base)(Z:1<=y.q.kd/\y.q.kd<=4):∃m,d.its=[m]/\m.q=y.q/\m.key=y.key/\m.base=y.base:=by
 obtain ⟨m,G,hc⟩:=J.i2 y (by rw [hi];simp) X fun _ _=>Xh Z _ _;have K:=J.ok.its.keys
 have g:∀w∈d.its,w=m:=fun w O=>by
  obtain ⟨_,x,U,B,_⟩:=J.i1 w O;rw [hi]at U;rw [BT.1 U]at B;exact G9 K O G ((M3 B).trans (M3 hc).symm)
 obtain ⟨_,_,e1,_,e2,_⟩:=Ir hc;refine ⟨m,?_,e1,M3 hc,e2⟩;have I:=K
 match hE:d.its,G,I with
 |[w],_,_=>rw [g w (by rw [hE];simp)]
 |w::w2::L,_,I=>
  have W:=g w (by rw [hE];simp);have h2:=g w2 (by rw [hE];simp)
  rw [W,h2]at I;simp at I
theorem aU{g:Nat}{T:TypeId}{z:Nat×Nat}{cur:Array Value}{c:Chg}(G:(g,Obj.cells cur T z)∈M)(I:10<=cur.size)(B:cur.extract 0 10=c.A15):Ck M (I6 g [c].length 1) [c]:=⟨_,_,rfl,by show 1<=maxLen;decide,fun i x m=>by
 match i,m with
 |0,m=>injection m with m;subst m;exact ⟨g,0,cur,T,z,rfl,G,by omega,by simpa using B⟩
 |i+1,m=>simp at m⟩
theorem tQ(G I B:Nat):∃(l:List BU) (M:List A9),M=[(G,Obj.cells #[I4 0,I4 5,.bool false,I4 0,I4 0,I4 0,.bool true,I4 10,I4 2,I4 7] 69 (0,0))]++([(I,Obj.cells #[I4 0,I4 6,.bool false,I4 0,I4 0,I4 0,.bool true,I4 11,I4 9,I4 7] 69 (0,0))]++[(B,Obj.cells #[I4 1,I6 G 1 1,I4 2,I6 I 1 1] 50 (0,0))])/\p5 l/\EW M (I6 B l.length 2) l:=by
 refine ⟨aL (some ⟨G,0,none⟩) (some ⟨I,0,none⟩),_,V,tT _ _,⟨_,_,V,⟨by show 2<=maxLen;decide,CT _⟩,fun i r m=>?_⟩⟩
 match i,m with
 |0,m=>injection m with m;subst m;exact ⟨aU (g:=G) (c:=exD 5 10 2) (.head _) AN rfl,B,0,_,_,_,rfl,.tail _ (.tail _ (.head _)),cJ rfl,rfl⟩
 |1,m=>injection m with m;subst m;exact ⟨aU (g:=I) (c:=exD 6 11 9) (.tail _ (.head _)) AN rfl,B,0,_,_,_,rfl,.tail _ (.tail _ (.head _)),cJ rfl,rfl⟩
 |i+2,m=>simp [aL]at m
set_option maxHeartbeats 4000000 in
theorem yU(Tg:TypeId)(zg:Nat×Nat)(Tp:TypeId)(zp:Nat×Nat):BJ prog 8 #[] [[(4,.cells (En.map Co).toArray Tg zg)],[(1,.cells (Lib.pow10Tab.map fun z=>Value.int .u64 z).toArray Tp zp)]] (.bool true):=by
 have hml:=mL;refine Se func8 ntmps8 [] ?_;intro u R;refine A0<|A3 Y<|A0<|Zv (BK (vs:=[(0,_),(1,_),(2,_)]) (cs:=#[_,_,_]) Y (DY cA Hj A5 V))<|Zv (BK (vs:=[(1,I4 5),(4,.bool true),(5,.agg #[I4 10,I4 2,I4 7])]) (cs:=#[I4 0,I4 5,.bool false,I4 0,I4 0,I4 0,.bool true,I4 10,I4 2,I4 7]) Y (AY (pl:=#[(0,1),(1,1),(2,1),(3,3),(6,1),(7,3)]) LI B8 (fun _=>by kernel_rfl) A6))<|Ze (Ah (vs:=[_]) (cs:=[_,_,_,_,_,_,_,_,_,_]) G3 C1 LI Y V rfl V rfl V)<|AD fun g1=>Zv (BK (vs:=[(0,_),(1,_)]) (cs:=#[_,_]) Y (AY (pl:=#[(0,1),(1,1)]) Ss GF (fun _=>by kernel_rfl) V))<|Zv (BK (vs:=[(0,_),(1,_),(2,_)]) (cs:=#[_,_,_]) Y (DY cA Hj A5 V))<|Zv (BK (vs:=[(1,I4 6),(4,.bool true),(5,.agg #[I4 11,I4 9,I4 7])]) (cs:=#[I4 0,I4 6,.bool false,I4 0,I4 0,I4 0,.bool true,I4 11,I4 9,I4 7]) Y (AY (pl:=#[(0,1),(1,1),(2,1),(3,3),(6,1),(7,3)]) LI B8 (fun _=>by kernel_rfl) A6))<|Ze (Ah (vs:=[_]) (cs:=[_,_,_,_,_,_,_,_,_,_]) G3 C1 LI Y V rfl V rfl V)<|AD fun g2=>Zv (BK (vs:=[(0,_),(1,_)]) (cs:=#[_,_]) Y (AY (pl:=#[(0,1),(1,1)]) Ss GF (fun _=>by kernel_rfl) V))<|Ze (Ah (vs:=[_,_]) (cs:=[_,_,_,_]) GB F2 Ss Y V rfl V rfl V)<|AD fun g0=>A3 Y<|Zq<|CK (s1:=[(g2,Obj.cells #[I4 0,I4 6,.bool false,I4 0,I4 0,I4 0,.bool true,I4 11,I4 9,I4 7] 69 (0,0))]) (s2:=[(g0,Obj.cells #[I4 1,I6 g1 1 1,I4 2,I6 g2 1 1] 50 (0,0))]) Wo Wo ?_;refine CK (s1:=[(g1,Obj.cells #[I4 0,I4 5,.bool false,I4 0,I4 0,I4 0,.bool true,I4 10,I4 2,I4 7] 69 (0,0))]) (s2:=([(g2,Obj.cells #[I4 0,I4 6,.bool false,I4 0,I4 0,I4 0,.bool true,I4 11,I4 9,I4 7] 69 (0,0))]++[(g0,Obj.cells #[I4 1,I6 g1 1 1,I4 2,I6 g2 1 1] 50 (0,0))])) Wo Wo ?_;obtain ⟨l,M,hM,g,qb⟩:=tQ g1 g2 g0;rw [<-hM];have zn:=g.len
 rw [show(Value.slice (some ⟨g0,0,none⟩) 2 2:Value)=I6 g0 l.length 2 by rw [zn]];obtain ⟨U,O,zb,Mx⟩:=g.two;obtain ⟨af,gm,offm,curm,Tm,zm,sw,sj,hszm,ax⟩:=pG qb O;injection sw with sw
 injection sw with hpm1 hpm2 _
 subst hpm1 hpm2;refine Zg<|Zv (BK (vs:=[(0,I4 3),(2,I4 1),(3,I4 10),(4,I4 19)]) (cs:=#[I4 3,I4 0,I4 1,I4 10,I4 19,I4 0,I4 0]) Y (AY (pl:=#[(0,1),(1,1),(2,1),(3,1),(4,1),(5,1),(6,1)]) MY C6 (fun _=>by kernel_rfl) A6))<|Ze (Al MY #[_,_,_,_,_,_,_])<|AD fun bq=>Xe (Xw C7 #[I4 3,I4 0,I4 1,I4 10,I4 19,I4 0,I4 0]) ?_;refine Z0<|Zn [1,2] ?_;refine Zx<|A0<|Zo Wh (AA (cs:=#[_,_,_,_,_,_,_]) Dg C7 Y AN (by exact BN V)) ?_;refine Xr [_] Y call11 Y V (NV exQ Tk Tp zp) ?_;refine Zm Y<|Zd Y V<|Zd Y V<|Za Y<|A3 Y<|A0<|Ze (Ah (vs:=[_]) (cs:=[_]) Cd A5 Gk Y V rfl V rfl V)<|AD fun gs=>Zc [_,_,_] Y call13 Y V (oE (sh:=[5]) (YI gs (I4 5)) 1 10 AN AN AN AN AN) ?_;rintro _ _ ⟨_,⟨c0,rfl,Qe,⟨W,p8,hw0⟩,Tn,FT,pg,Z,rfl⟩,rfl⟩;have L0:IV l 1 c0:=⟨Qe,Tn,by omega,by rw [hw0];exact RV l 1,fun x I=>by rw [W]at I;cases I⟩
 refine Zm Y<|Zd Y V<|Zd Y V<|Za Y<|AG Y<|Zn [1,2,3,5,6] ?_;refine Zx<|A0<|Ze (Ah (vs:=[_]) (cs:=[_]) Cd A5 Gk Y V rfl V rfl V)<|AD fun Pn=>Xr [_,_,_] Y call13 Y V (uA (-1) 10 (I6 Pn 1 1) AN) ?_;refine Zm Y<|Zd Y V<|Zd Y V<|Za Y<|A3 Y<|Zq<|A0<|Zm Y<|Zv (Be Pr Y Y)<|Zm Y<|Af (t:=55) Y V (fun k1=>by cases k1)<|fun k1=>Zf Y Y<|Yg (FR (n:=0) Y Y)<|Zv (AL Y Y)<|Zm Y<|Ao (t:=59) Y V (fun k2=>?_) (fun k2=>?_)
 ·
  exact absurd V k2
 refine Zf Y Y<|Yg (FR (n:=180) Y Y)<|Zv (AL Y Y)<|Z0<|Zn [1,2,3,5,62] ?_;refine Zx<|Av Y (fun k3=>?_) (fun k3=>?_)
 ·
  exact absurd V k3
 refine AC<|Zx<|A0<|Zm Y<|Zm Y<|Zo Wh (AA (cs:=#[_,_,_,_,_,_,_]) Dg C7 Y AN (by exact BN V)) ?_;refine Zc [_,_,_,_] Y call15 Y V (XM qb g.b.ok A1 1 A1 Tk (g.b.scan 1 A1 exQ) 0 Tg zg) ?_;rintro _ _ ⟨_,⟨E1,pg1,cg1,vz,rfl,rfl⟩,rfl⟩;have l9:1+((0:Nat):Int)<=c0.z.fr:=by
  have h9:=Wl L0.ok.tookb (B:=0) (by rw [p8];simp);rw [W,Z]at h9;simp at h9⊢;omega
 refine Zc [_,_] Y call14 Y rfl (yn g.b L0 Tk (k:=0) (by rw [pg];decide) AN (a:=1) A1 vz (by have:=FT;omega) (by rw [W];decide) (n:=0) (fun b hb=>by rw [Tx];decide) l9 Tp zp) ?_;rintro _ _ ⟨_,⟨b1,c1,rfl,L1,d9,hnn1,Ps,rfl⟩,rfl⟩;obtain ⟨rfl,y1,kv,l8,r9,ic,hsz1⟩:=Vn W p8 A1 Ps;rw [<-d9.cp];have zq:c1.ns=1:=d9.ns.trans pg
 have ql:c1.z.cap=10:=d9.cap.trans Z;have hnx1:c1.next<=11:=by omega
 refine A3 Y<|A0<|Zm Y<|Zm Y ?_;have bn:=XA L1.ok (x:=y1) (by rw [kv];simp) (by rw [ic,L1.pos];omega)
 rw [r9]at bn;refine Zc [_,_] Y call17 Y V (bn) ?_;rintro _ _ ⟨_,⟨z1,l1,s1,MB,hpc1,hzo1,rfl,rfl⟩,rfl⟩;obtain ⟨a1,e11,e12,e13,e14,P5⟩:=L1.at g.b (x:=y1) (by rw [kv];simp);obtain rfl:a1=1:=by omega
 have hv1:z1.a.res.val=1:=by rw [MB];show y1.res.val=1;rw [(P5 A1).1,l8];exact g.e1
 have Y2:z1.a.until_=1:=by rw [MB];show c1.pos=1;rw [L1.pos];rfl
 refine Zm Y<|Zd Y V<|Zd Y V<|Ze (Al MT #[_,_,_,_,_,_,_,_,_,_,_,_,_,_,_])<|AD fun ba=>Xe (Xw LL z1.A18) ?_;refine AG Y<|Zn [1,2,3,5,9,10,11] ?_;refine Zx<|A0<|Zm Y<|Zm Y<|BX (Ad (j:=1) GB F2 Y Y A1)<|CO (Gf Wo (sj)) (AA (cs:=#[I4 U.p,.slice U.q U.cs.length U.cap]) Hc F2 Y A1 (by exact ax)) V rfl ?_;refine Zc [_,_] Y call16 Y V (eZ g.b L1 O af) ?_;rintro _ _ ⟨_,⟨c2,q22,MP,zs2,tv2,sT2,rfl,L2,X,q9,rfl⟩,rfl⟩;have G:U.p=c1.pos+1:=(L1.next g.b O).2
 rw [L1.pos]at G;have ME:zs2=[y1.key]:=yH X kv (by unfold QL;rw [l8];exact zb) (by rw [ic,G];omega)
 rw [ME,r9]at q9;obtain ⟨gt,capt,sO,zt,rfl,rfl,hszt,Ta⟩:=OX q9 (n:=1) rfl AN;have yt:sO[0]?=some (.string (str (Cr exQ))):=Ta 0 AN
 rw [<-X.cp];obtain ⟨y2,zf,sJ,zi,j3⟩:=iy X kv (by rw [ic];omega) (by rw [l8];decide);rw [l8]at sJ;rw [r9]at zi;rw [ic]at j3;have zu:c2.ns=1:=X.ns.trans zq
 have qo:c2.z.cap=10:=X.cap.trans ql;have hnx2:c2.next<=12:=by rw [X.next];omega
 refine Zm Y<|Zd Y V<|Zd Y V<|Za Y<|A3 Y<|A0<|Zm Y<|Zm Y ?_;have cu:=XA L2.ok (x:=y2) (by rw [zf];simp) (by rw [j3,L2.pos];omega)
 rw [zi]at cu;refine Zc [_,_] Y call17 Y V (cu) ?_;rintro _ _ ⟨_,⟨z2,l2,s2,sM,Gw,hzo2,rfl,rfl⟩,rfl⟩;obtain ⟨a2,e21,e22,e23,P6,e25⟩:=L2.at g.b (x:=y2) (by rw [zf];simp);obtain rfl:a2=1:=by omega
 obtain ⟨e241,ve,o9,_⟩:=P6 A1;have hv2:z2.a.res.val=2:=by rw [sM];show y2.res.val=2;rw [ve,sJ];exact g.e2
 have Ty:z2.a.since=2:=by
  rw [sM];show y2.since=2
  rw [sJ]at o9;obtain ⟨⟨a1,a2⟩,_,a4⟩:=o9;rcases (by omega:y2.since=2\/y2.since<=1)with h9|h9
  · exact h9
  · have ht:=a4 1 U A1 AN O
    rw [Mx]at ht;cases ht
 have Tc:z2.a.recs.length=1:=by
  rw [sM];show l2.length=1
  have h9:=congrArg List.length Gw;rw [B2,B2,O5 (by rw [L2.pos,j3];omega),L2.pos,j3]at h9;omega
 refine Zm Y<|Zd Y V<|Zd Y V<|Ze (Al MT #[_,_,_,_,_,_,_,_,_,_,_,_,_,_,_])<|AD fun bb=>Xe (Xw LL z2.A18) ?_;refine AG Y<|Zn [1,2,3,5,9,10,11,12,13,14,15] ?_;refine Zx<|A0<|Zm Y<|Zm Y<|BX (Ad (j:=1) GB F2 Y Y A1)<|CO (Gf Wo (sj)) (AA (cs:=#[I4 U.p,.slice U.q U.cs.length U.cap]) Hc F2 Y A1 (by exact ax)) V rfl ?_;refine Xr [_,_] Y call16 Y rfl (ZA L2.ok.tookb af (L1.next g.b O).1 (by rw [G,L2.pos];omega)) ?_;refine Zm Y<|Zd Y V<|Zd Y V<|Za Y<|A3 Y<|A0<|Zm Y<|Zc [_,_] Y call28 Y V (yu L2.ok 1 AN) ?_;rintro _ _ ⟨_,⟨rfl,c3,Rl,y9,⟨m,p9,hw3⟩,Gl,gy,gq,K,rfl⟩,rfl⟩;rw [<-y9];have L3:IV l 1 c3:=⟨Rl,Gl,by omega,by rw [hw3];exact RV l 1,fun x I=>by rw [m]at I;cases I⟩
 rw [zu]at gq;rw [qo]at K;replace gy:c3.next<=13:=by rw [gy];omega
 refine A4<|A0<|Zm Y<|Zc [_] Y call19 Y V (y8 L3.ok.tookb) ?_;rintro _ _ ⟨_,⟨zs3,sk3,pz,_,LC,rfl⟩,rfl⟩;rw [m]at pz;have MJ:zs3=[]:=pz.eq_nil
 subst MJ;obtain ⟨pk3,ck3,rfl⟩:=iJ LC (n:=0) rfl;refine Zv (Ab CN Y)<|Zv (Cb (n:=0) Y Y)<|Zm Y<|Ao (t:=102) Y V (fun k4=>?_) (fun k4=>?_)
 ·
  refine Zf Y Y<|Xr [_] Y call29 Y V (sE c3) ?_;rw [Gl];refine Yg (Cb (n:=1) Y Y)<|Zv (AX Y Y)<|AG Y<|Zn [1,2,3,5,9,10,11,12,13,14,15,17,18] ?_;refine Zx<|A0<|Zm Y<|Zm Y<|Zo Wh (AA (cs:=#[_,_,_,_,_,_,_]) Dg C7 Y AN (by exact BN V)) ?_;refine Zc [_,_,_,_] Y call15 Y V (XM qb g.b.ok A1 2 A1 Tk (g.b.scan 2 A1 exQ) 0 Tg zg) ?_;rintro _ _ ⟨_,⟨E2,pg2,cg2,wo,rfl,rfl⟩,rfl⟩;have o8:1+((0:Nat):Int)<=c3.z.fr:=by
   have h9:=Wl L3.ok.tookb (B:=0) (by rw [p9];simp);rw [m,K]at h9;simp at h9⊢;omega
  refine Zc [_,_] Y call14 Y rfl (yn g.b L3 Tk (k:=0) (by rw [gq];decide) AN (a:=2) A1 wo (by have:=gy;omega) (by rw [m];decide) (n:=0) (fun b hb=>by rw [Tx];decide) o8 Tp zp) ?_;rintro _ _ ⟨_,⟨b4,c4,rfl,L4,ek,hnn4,Qd,rfl⟩,rfl⟩;obtain ⟨rfl,y4,qx,Hf,zk,j5,LD⟩:=Vn m p9 A1 Qd;rw [<-ek.cp];have zy:c4.ns=1:=ek.ns.trans gq
  have qw:c4.z.cap=10:=ek.cap.trans K;have hnx4:c4.next<=14:=by omega
  refine A3 Y<|A0<|Zm Y<|Zm Y ?_;have za:=lN L4.ok (x:=y4) (by rw [qx];simp) (by rw [j5,L4.pos];omega)
  rw [zk]at za;refine Xr [_,_] Y call17 Y V (za) ?_;refine Zm Y<|Zd Y V<|Zd Y V<|Ze (Al MT #[_,_,_,_,_,_,_,_,_,_,_,_,_,_,_])<|AD fun bc=>Xe (Xw LL #[I4 0,I4 0,I4 0,I4 0,I4 0,I4 0,I4 0,.slice none 0 0,I4 0,.bool false,I4 0,I4 0,I4 0,.slice none 0 0,.slice none 0 0]) ?_;refine AG Y<|Zn [1,3,5,9,10,11,12,13,14,15,17,18,19,21] ?_;refine Zx<|A0<|Zm Y<|Zm Y<|BX (Ad (j:=1) GB F2 Y Y A1)<|CO (Gf Wo (sj)) (AA (cs:=#[I4 U.p,.slice U.q U.cs.length U.cap]) Hc F2 Y A1 (by exact ax)) V rfl ?_;refine Zc [_,_] Y call16 Y V (eZ g.b L4 O af) ?_;rintro _ _ ⟨_,⟨c5,q52,MS,zs5,tv5,sT5,rfl,L5,J,qa,rfl⟩,rfl⟩;have G:U.p=c4.pos+1:=(L4.next g.b O).2
  rw [L4.pos]at G;have MK:zs5=[]:=uu J fun x I=>by rw [qx]at I;rw [BT.1 I,j5];omega
  rw [MK]at qa;obtain ⟨pk5,ck5,rfl⟩:=iJ qa (n:=0) rfl;rw [<-J.cp];obtain ⟨y5,qz,HZ,zl,qj⟩:=iy J qx (by rw [j5];omega) (by rw [Hf];decide);rw [Hf]at HZ;rw [zk]at zl;rw [j5]at qj;have pq:c5.ns=1:=J.ns.trans zy
  have T9:c5.z.cap=10:=J.cap.trans qw;have hnx5:c5.next<=15:=by rw [J.next];omega
  refine Zm Y<|Zd Y V<|Zd Y V<|Za Y<|A3 Y<|A0<|Zm Y<|Zm Y ?_;have cO:=XA L5.ok (x:=y5) (by rw [qz];simp) (by rw [qj,L5.pos];omega)
  rw [zl]at cO;refine Zc [_,_] Y call17 Y V (cO) ?_;rintro _ _ ⟨_,⟨z5,l5,s5,MC,hpc5,hzo5,rfl,rfl⟩,rfl⟩;obtain ⟨a5,e51,e52,e53,e54,P7⟩:=L5.at g.b (x:=y5) (by rw [qz];simp);obtain rfl:a5=2:=by omega
  have hv5:z5.a.res.val=2:=by rw [MC];show y5.res.val=2;rw [(P7 A1).1,HZ];exact g.e2
  have wz:z5.a.base=2:=by rw [MC];show y5.base=2;rw [qj];rfl
  refine Zm Y<|Zd Y V<|Zd Y V<|Ze (Al MT #[_,_,_,_,_,_,_,_,_,_,_,_,_,_,_])<|AD fun bd=>Xe (Xw LL z5.A18) ?_;refine AG Y<|Zn [3,5,9,10,11,12,13,14,15,17,18,19,21,22,24,25] ?_;refine Zx<|A0<|Zm Y<|Zm Y<|Af (t:=133) Y V (fun g1=>?_) (fun g1=>?_)
  ·
   refine Zf Y Y<|Zv (AX Y Y)<|Zm Y<|Af (t:=136) Y V (fun g2=>?_) (fun g2=>?_)
   ·
    refine Yf 7 N3 V rfl Ax Y<|Yg (Aq (off:=1) CC V rfl A5 Y)<|Yl AE Y ?_;refine Yg (CP Y Y)<|Zv (AX Y Y)<|Zm Y<|Ao (t:=142) Y V (fun g3=>?_) (fun g3=>?_)
    ·
     refine Yf 11 N3 V rfl A5 Y<|Yl AE Y ?_;refine Yg (CP Y Y)<|Zv (AX Y Y)<|Zm Y<|Ao (t:=147) Y V (fun g4=>?_) (fun g4=>?_)
     ·
      refine Zf Y Y<|Yg (Cb (n:=0) Y Y)<|Zv (AX Y Y)<|Zm Y<|Ao (t:=151) Y V (fun g5=>?_) (fun g5=>?_)
      ·
       refine Zf Y Y<|Yg (Ab CN Y)<|Yg (Cb (n:=1) Y Y)<|Zv (AX Y Y)<|Zm Y<|Ao (t:=156) Y V (fun g6=>?_) (fun g6=>?_)
       ·
        refine Zf Y Y ?_
        (refine Gp Y (BS (j:=0) CN F0 Y Y ?_) rfl rfl ?_;(focus (first|omega|decide|(simp;done))))
        refine Yl HC Y (hv:=by exact yt) ?_;refine Zf Y Y<|Yg (VU Y Y)<|Zv (AX Y Y)<|AG Y<|Zn [5,14,15,17,18,19,21,22,24,25,26] ?_;refine Zx<|A0<|Zm Y<|Zm Y<|Af (t:=164) Y V (fun g8=>?_) (fun g8=>?_)
        ·
         refine Yf 7 N3 V rfl Ax Y<|Yg (Aq (off:=1) CC V rfl A5 Y)<|Yl AE Y ?_;refine Yg (CP Y Y)<|Zv (AX Y Y)<|Zm Y<|Ao (t:=170) Y V (fun g9=>?_) (fun g9=>?_)
         ·
          refine Yf 10 N3 V rfl A5 Y<|Yl AE Y ?_;refine Yg (CP Y Y)<|Zv (AX Y Y)<|Zm Y<|Ao (t:=175) Y V (fun vo=>?_) (fun vo=>?_)
          ·
           refine Yf 14 N3 V rfl S5 Y<|Yl isAgg25 Y ?_;refine Yg (Ab GB Y)<|Yg (Cb (n:=1) Y Y)<|Zv (AX Y Y)<|Zm Y<|Ao (t:=181) Y V (fun vw=>?_) (fun vw=>?_)
           ·
            refine Zf Y Y<|Yg (Cb (n:=180) Y Y)<|Zv (AX Y Y)<|AG Y<|Zn [5,18,19,21,22,24,25,26,27] ?_;refine Zx<|A0<|Zm Y<|Zm Y<|Ao (t:=186) Y V (fun m1=>?_) (fun m1=>?_)
            ·
             refine Zf Y Y<|Zv (AX Y Y)<|Zm Y<|Ao (t:=189) Y V (fun m2=>?_) (fun m2=>?_)
             ·
              refine Zf Y Y<|Zv (AX Y Y)<|Zm Y<|Ao (t:=192) Y V (fun m3=>?_) (fun m3=>?_)
              ·
               refine Zf Y Y<|Zv (AX Y Y)<|Zm Y<|Af (t:=195) Y V (fun m4=>?_) (fun m4=>?_)
               ·
                refine Zf Y Y<|Yg (Br Y)<|Zv (AX Y Y)<|Zm Y<|Af (t:=199) Y V (fun m5=>?_) (fun m5=>?_)
                ·
                 refine Zf Y Y<|Yg (Ab CN Y)<|Yg (Cb (n:=0) Y Y)<|Zv (AX Y Y)<|Zm Y<|Ao (t:=204) Y V (fun m6=>?_) (fun m6=>?_)
                 ·
                  refine Zf Y Y<|Zv (AX Y Y)<|Zm Y<|Af (t:=207) Y V (fun m7=>?_) (fun m7=>?_)
                  ·
                   refine Yf 7 N3 V rfl Ax Y<|Yg (Aq (off:=1) CC V rfl A5 Y)<|Yl AE Y ?_;refine Yg (CP Y Y)<|Zv (AX Y Y)<|Zm Y<|Ao (t:=213) Y V (fun m8=>?_) (fun m8=>?_)
                   ·
                    refine Yf 12 N3 V rfl A5 Y<|Yl AE Y ?_;refine Yg (CP Y Y)<|Zv (AX Y Y)<|Zm Y<|Ao (t:=218) Y V (fun m9=>?_) (fun m9=>?_)
                    ·
                     refine Zf Y Y<|Xr [_,_] Y call30 Y rfl (pt (k:=0) L5.ok.tookb (by rw [pq];decide)) ?_;rw [vL L5.ok.tookb pq qz (fun e he=>LD e (J.PL e he))];refine Yg (Cb (n:=1) Y Y)<|Zv (AX Y Y)<|AG Y<|Zn [0] ?_;refine Zx<|AJ<|AO V results8 Y (by exact ⟨V,V⟩)
                    exact absurd wz m9
                   exact absurd hv5 m8
                  cases m7
                 exact absurd V m6
                cases m5
               cases m4
              exact absurd V m3
             exact absurd V m2
            exact absurd V m1
           exact absurd Tc vw
          exact absurd Ty vo
         exact absurd hv2 g9
        cases g8
       exact absurd V g6
      exact absurd V g5
     exact absurd Y2 g4
    exact absurd hv1 g3
   cases g2
  cases g1
 exact absurd V k4
def M8(z:Int):Nat:=if z<0 then(-(z+1)).toNat else z.toNat
theorem jM{z:Int}(h:z<0):(-(z+1)).toNat=M8 z:=(AK h).symm
theorem jL{z:Int}(h:¬z<0):z.toNat=M8 z:=(AH h).symm
def sH(had:Bool)(m:Nat):Bool:=!had||decide (0<m%4)
def sB(m:Nat):V3:=⟨((m/4%10:Nat):Int),((1+m/40%9:Nat):Int),((m/400%40:Nat):Int) -20⟩
def jI(gr:AU×Bool)(n m:Nat):Chg:=⟨((n%3:Nat):Int),((1+n/3%9:Nat):Int),gr.2,gr.1.v,sH gr.2 m,if sH gr.2 m then sB m else V3.zero⟩
def Qn(rs:List AU)(n m:Nat):Chg:=jI (Fg rs ((n%3:Nat):Int) ((1+n/3%9:Nat):Int)) n m
def Ru(c y:Chg):Bool:=decide (y.t=c.t/\y.k=c.k)
def FL(cs:List Chg)(c:Chg)(k n:Nat):Prop:=cs.any (Ru c)=true\/(c.had=true/\c.has=true/\c.o=c.n)\/(0<k/\n%5=0)
instance(cs:List Chg)(c:Chg)(k n:Nat):Decidable (FL cs c k n):=inferInstanceAs(Decidable (_\/_))
def M5(c y:Chg):Prop:=c.t<y.t\/y.t=c.t/\c.k<y.k
instance(c y:Chg):Decidable (M5 c y):=inferInstanceAs(Decidable (_\/_))
def Pv(cs:List Chg)(c:Chg):Nat->Nat
 |0=>0
 |j+1=>match cs[j]?with
  |some y=>if M5 c y then Pv cs c j else j+1
  |none=>j+1
variable{j:Nat}
theorem YV{c y:Chg}(h0:0<j)(g:cs[j -1]?=some y)(h:M5 c y):Pv cs c j=Pv cs c (j -1):=by
 obtain ⟨k,rfl⟩:∃k,j=k+1:=⟨j -1,by omega⟩;rw [RE]at g⊢;rw [Pv,g];exact AK h
theorem YU{c y:Chg}(h0:0<j)(g:cs[j -1]?=some y)(h:¬M5 c y):Pv cs c j=j:=by
 obtain ⟨k,rfl⟩:∃k,j=k+1:=⟨j -1,by omega⟩;rw [RE]at g;rw [Pv,g];exact AH h
theorem qB{c:Chg}(h0:¬0<j):Pv cs c j=j:=by
 obtain rfl:j=0:=by omega
 rfl
noncomputable def Us(rs:List AU)(z:List Int)(k:Nat)(cs:List Chg):List Chg:=
 if FL cs (Qn rs (M8 (z.getD (2*k) 0)) (M8 (z.getD (2*k+1) 0))) k (M8 (z.getD (2*k) 0))then cs
 else cs.take (Pv cs (Qn rs (M8 (z.getD (2*k) 0)) (M8 (z.getD (2*k+1) 0))) cs.length)++[Qn rs (M8 (z.getD (2*k) 0)) (M8 (z.getD (2*k+1) 0))]++cs.drop (Pv cs (Qn rs (M8 (z.getD (2*k) 0)) (M8 (z.getD (2*k+1) 0))) cs.length)
noncomputable def GA(rs:List AU)(z:List Int):Nat->List Chg
 |0=>[]
 |k+1=>Us rs z k (GA rs z k)
variable{z:List Int}
theorem RJ{n:Int}(h:z[i]?=some n):z.getD i 0=n:=by rw [Lw,h];rfl
theorem KH{m:Nat}{B G:Int}{c:Chg}(g:cs=GA rs z k)(I:z[2*k]?=some B)(J:z[2*k+1]?=some G)(O:n=M8 B)(K:m=M8 G)(hc:c=Qn rs n m)(h:FL cs c k n):cs=GA rs z (k+1):=by
 subst O K hc;show _=Us rs z k (GA rs z k)
 unfold Us;rw [RJ I,RJ J,<-g,AK h]
theorem uD{m:Nat}{B G:Int}{c:Chg}(g:cs=GA rs z k)(I:z[2*k]?=some B)(J:z[2*k+1]?=some G)(U:n=M8 B)(O:m=M8 G)(hc:c=Qn rs n m)(h:¬FL cs c k n)(K:Pv cs c cs.length=j):cs.take j++[c]++cs.drop j=GA rs z (k+1):=by
 subst U O hc K;show _=Us rs z k (GA rs z k)
 unfold Us;rw [RJ I,RJ J,<-g,AH h]
def YH(L:List (List Chg)):List AU:=L.foldl DL []
theorem YG(l:List BU):YH (l.map BU.cs)=Bd l:=by unfold YH Bd;rw [List.foldl_map]
noncomputable instance(rs:List AU)(p q:Int)(cs:List Chg):Decidable (KN rs p q cs):=Classical.propDecidable _
noncomputable def Mc(L:List (List Chg))(z:List Int):List (List Chg):=
 if KN (YH L) (L.length:Int) ((L.length:Int)+1) (GA (YH L) z 3)then L++[GA (YH L) z 3]else L
noncomputable def TF(xs:List (List Int)):List (List Chg):=xs.foldl Mc []
theorem Vb{xs:List (List Int)}(hz:xs[i]?=some z):TF (xs.take (i+1))=Mc (TF (xs.take i)) z:=by
 unfold TF;rw [P0,hz,X2];rfl
theorem wJ{xs:List (List Int)}{g:List BU}(hz:xs[i]?=some z)(m:g.map BU.cs=TF (xs.take i))(hc:r.cs=GA (Bd g) z 3)(h:KN (Bd g) (g.length:Int) ((g.length:Int)+1) r.cs):(g++[r]).map BU.cs=TF (xs.take (i+1)):=by
 rw [Vb hz,<-m];unfold Mc;rw [YG,B2,<-hc,AK h,BW];rfl
theorem yo{xs:List (List Int)}{g:List BU}(hz:xs[i]?=some z)(m:g.map BU.cs=TF (xs.take i))(hc:cs=GA (Bd g) z 3)(h:¬KN (Bd g) (g.length:Int) ((g.length:Int)+1) cs):g.map BU.cs=TF (xs.take (i+1)):=by
 rw [Vb hz,<-m];unfold Mc;rw [YG,B2,<-hc,AH h]
theorem zN{p:Chg->Bool}{x:Chg}(g:cs[i]?=some x):(cs.take (i+1)).any p=((cs.take i).any p||p x):=by
 rw [P0,g,nn];simp
theorem Xi{p:Chg->Bool}{x:Chg}{g:Bool}(B:cs[i]?=some x)(m:b=(cs.take i).any p)(h:g=(b||p x)):g=(cs.take (i+1)).any p:=by
 rw [zN B,<-m,h]
end Go.Proofs.YteaiajghbkenoaaGreatDoor
