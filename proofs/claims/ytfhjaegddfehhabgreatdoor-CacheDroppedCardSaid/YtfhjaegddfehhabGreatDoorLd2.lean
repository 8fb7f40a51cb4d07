/- The helpers of the laws of chapter 18. -/
import Derived.Test.YtfhjaegddfehhabGreatDoorPy10
set_option linter.unusedVariables false
set_option linter.unusedSimpArgs false
namespace Go.Proofs.YtfhjaegddfehhabGreatDoor
open Go.Proofs.Tryz
open Go Go.RowKit Gw
set_option maxRecDepth 100000
attribute [local irreducible] Gw.At Gw.Nx Gw.Ops
def Fz(x0 x1 x2 x3 x4:Int):QM:=
 if CL x0 7=0 then⟨((1+CL x0 7:Nat):Int),(CL (x0.tdiv 7) 3:Int),0,((1+CL x1 9:Nat):Int),((1+CL x1 9:Nat):Int),0,0⟩
 else⟨((1+CL x0 7:Nat):Int),(CL (x0.tdiv 7) 3:Int),(CL x1 4:Int),(CL x2 12:Int) -3,(CL x2 12:Int) -3+(CL x3 14:Int),if 3<=CL x0 7 then((1+CL x4 3:Nat):Int)else 0,if CL x0 7=6 then(CL (x4.tdiv 3) 3:Int)else 0⟩
theorem Sz(g m G I B:Int):BF (Fz g m G I B):=by
 have a0:=Dv g 7 AW;have J:=Dv (g.tdiv 7) 3 AW
 have O:=Dv m 9 AW;have U:=Dv m 4 AW
 have W:=Dv G 12 AW;have X:=Dv I 14 AW
 have Z:=Dv B 3 AW;have a7:=Dv (B.tdiv 3) 3 AW
 unfold Fz;split;· exact VG A1
 · split<;>split<;>exact VG A1
theorem I1(c:Int)(n:Nat)(hn:0<n)(m:n<=1000000)(B:-9223372036854775808<=c)(h2:c<=9223372036854775807):BB prog 10 #[I4 c,I4 (n:Int)] [] (I4 (CL c n:Int)):=by
 refine Se func10 ntmps10 [0,1] ?_;intro u R;refine A0<|A4 Y<|Zq<|A0<|Zm Y<|Zv (Dw Y Y)<|A5<|Aq Y (fun g=>?_) (fun g=>?_);·
  refine Zg<|Zm Y<|Yi Y Y ?_;refine BV (jf Y (IntWalk.i64_in _ A1))<|A4 Y<|A0<|Zm Y<|Zm Y<|BV (sG Y Y A1 rfl)<|A4 Y<|AJ<|AO rfl results10 Y (by exact ⟨by rw [<-ZH];simp [*],rfl⟩)
 refine AC<|Zx<|A0<|Zm Y<|Zm Y<|BV (sG Y Y A1 rfl)<|A4 Y<|AJ<|AO rfl results10 Y (by exact ⟨by rw [<-ZH];simp [*],rfl⟩)
set_option maxHeartbeats 1000000 in
theorem Sy(g G q2 J I:Int)(O:-9223372036854775808<=g)(U:g<=9223372036854775807)(af:-9223372036854775808<=G)(ax:G<=9223372036854775807)(bn:-9223372036854775808<=q2)(cu:q2<=9223372036854775807)(cO:-9223372036854775808<=J)(d9:J<=9223372036854775807)(W:-9223372036854775808<=I)(X:I<=9223372036854775807):BB prog 9 #[.agg #[I4 g,I4 G,I4 q2,I4 J,I4 I]] [] (.agg #[I4 (Fz g G q2 J I).kd,I4 (Fz g G q2 J I).tb,I4 (Fz g G q2 J I).cl,I4 (Fz g G q2 J I).lo,I4 (Fz g G q2 J I).hi,I4 (Fz g G q2 J I).bq,I4 (Fz g G q2 J I).ot]):=by
 have B:=OZ 7 AW O U;have ek:=Dv (g.tdiv 7) 3 AW
 have Z:=OZ 3 AW W X;have gq:=Dv (I.tdiv 3) 3 AW
 have j3:=Dv g 7 AW;have j5:=Dv G 9 AW
 have gm:=Dv G 4 AW;have kv:=Dv q2 12 AW
 have l5:=Dv J 14 AW;have l8:=Dv I 3 AW
 refine Se func9 ntmps9 [0] ?_;intro u R;refine A0<|Ze (Bx #[_,_,_,_,_])<|AG fun bx=>Ze (Al N2 #[_,_,_,_,_,_,_])<|AG fun br=>A5<|Zb [1,2] ?_;refine DL (e0:=[]) (H0:=[]) (fun e H=>∃(bq:Nat),(True)/\e=[(3,I5 bq)]/\H=[[(bq,.cells #[I4 ((1+CL g 7:Nat):Int),I4 (CL (g.tdiv 7) 3:Int),I4 0,I4 0,I4 0,I4 0,I4 0] 34 (0,0))]]) Wp ?hx_1 ?hy_1
 case hx_1=>
  refine Az (n:=11) (0::1::3::7::0::16::48::119::255::0::1023::[]) 1668 AE AE V ?_;first|(refine Dr (D':=1) 0 (BJ (j:=0) N0 A6 Y Y ?_) ?_;(focus (first|omega|decide|(simp;done))))|(refine Dr (D':=1) 0 (Cr (j:=0) N0 A6 Y Y ?_) ?_;(focus (first|omega|decide|(simp;done))))
  refine B9 1 V AF Y ?_;first|(refine Dr (D':=19) 4 (BJ (j:=0) N0 A6 Y Y ?_) ?_;(focus (first|omega|decide|(simp;done))))|(refine Dr (D':=19) 4 (Cr (j:=0) N0 A6 Y Y ?_) ?_;(focus (first|omega|decide|(simp;done))))
  refine B9 5 V AF Y ?_;refine A2 6 V (sH (m:=g) (n:=7) Y Y AW (IntWalk.i64_in _ (by have:=OZ 7 AW O U;omega)))<|Zz (l:=[2,9])<|B5 [true,false] [(5,(_,_))] V rfl (Zu [_,_] Y S6 Y V (I1 g 7 AW AW O U)) ?_ (fun _ _ h=>h.elim) ?_;·
   rintro _ _ ⟨rfl,rfl⟩;refine ⟨Zk (Aa),?_⟩;first|(refine Dr (D':=127) 3 (ED (m:=1) Y Y ?_) ?_;(focus (omega)))|(refine Dr (D':=127) 3 (Hg Y Y (IntWalk.i64_in _ ?_)) ?_;(focus (omega)))
   refine Zz (l:=[7,9])<|B5 [false] [] V rfl (Zu [_,_] Y S6 Y V (I1 (g.tdiv 7) 3 AW AW B.1 B.2)) ?_ (fun _ _ h=>h.elim) ?_;·
    rintro _ _ ⟨rfl,rfl⟩;refine BT<|A2 8 V (BL (vs:=[(0,I4 ((1+CL g 7:Nat):Int)),(1,I4 (CL (g.tdiv 7) 3:Int))]) (cs:=#[I4 ((1+CL g 7:Nat):Int),I4 (CL (g.tdiv 7) 3:Int),I4 0,I4 0,I4 0,I4 0,I4 0]) Y (AZ (pl:=#[(0,1),(1,1),(2,1),(3,1),(4,1),(5,1),(6,1)]) N2 CT (fun _=>by kernel_rfl) AE))<|Yw 9 1023 V (Al N2 #[_,_,_,_,_,_,_])<|AG fun bq=>Yw 10 2047 V (Xw CN #[I4 ((1+CL g 7:Nat):Int),I4 (CL (g.tdiv 7) 3:Int),I4 0,I4 0,I4 0,I4 0,I4 0])<|D4<|Ag<|Zn [3,1,2] ?_;refine BN (e':=[(3,_)]) (by exact ⟨bq,trivial,V,V⟩)
   refine B5 [true] [(5,(_,_))] V rfl (Al N2 #[_,_,_,_,_,_,_]) ?_ (fun _ _ h=>h.elim) Ah;rintro _ _ ⟨bq,rfl,rfl⟩;refine BT<|Yw 7 767 V (Zu [_,_] Y S6 Y V (I1 (g.tdiv 7) 3 AW AW B.1 B.2))<|D4<|A2 8 V (BL (vs:=[(0,I4 ((1+CL g 7:Nat):Int)),(1,I4 (CL (g.tdiv 7) 3:Int))]) (cs:=#[I4 ((1+CL g 7:Nat):Int),I4 (CL (g.tdiv 7) 3:Int),I4 0,I4 0,I4 0,I4 0,I4 0]) Y (AZ (pl:=#[(0,1),(1,1),(2,1),(3,1),(4,1),(5,1),(6,1)]) N2 CT (fun _=>by kernel_rfl) AE))<|Yw 10 2047 V (Xw CN #[I4 ((1+CL g 7:Nat):Int),I4 (CL (g.tdiv 7) 3:Int),I4 0,I4 0,I4 0,I4 0,I4 0])<|D4<|Ag<|Zn [3,1,2] ?_;refine BN (e':=[(3,_)]) (by exact ⟨bq,trivial,V,V⟩)
  refine B5 [true,true] [(5,(_,_)),(1,(_,_))] V rfl (Al N2 #[_,_,_,_,_,_,_]) ?_ (fun _ _ h=>h.elim) Ah;rintro _ _ ⟨bq,rfl,rfl⟩;refine BT<|Yz 2 3 631 [5,1] [true,false] [(5,(_,_))] V Y V rfl V rfl (Zu [_,_] Y S6 Y V (I1 g 7 AW AW O U)) ?_;rintro _ _ ⟨rfl,rfl⟩;refine ⟨Zk (Aa),?_⟩;first|(refine Dr (D':=639) 3 (ED (m:=1) Y Y ?_) ?_;(focus (omega)))|(refine Dr (D':=639) 3 (Hg Y Y (IntWalk.i64_in _ ?_)) ?_;(focus (omega)))
  refine Yw 7 767 V (Zu [_,_] Y S6 Y V (I1 (g.tdiv 7) 3 AW AW B.1 B.2))<|D4<|A2 8 V (BL (vs:=[(0,I4 ((1+CL g 7:Nat):Int)),(1,I4 (CL (g.tdiv 7) 3:Int))]) (cs:=#[I4 ((1+CL g 7:Nat):Int),I4 (CL (g.tdiv 7) 3:Int),I4 0,I4 0,I4 0,I4 0,I4 0]) Y (AZ (pl:=#[(0,1),(1,1),(2,1),(3,1),(4,1),(5,1),(6,1)]) N2 CT (fun _=>by kernel_rfl) AE))<|Yw 10 2047 V (Xw CN #[I4 ((1+CL g 7:Nat):Int),I4 (CL (g.tdiv 7) 3:Int),I4 0,I4 0,I4 0,I4 0,I4 0])<|D4<|Ag<|Zn [3,1,2] ?_;refine BN (e':=[(3,_)]) (by exact ⟨bq,trivial,V,V⟩)
 rintro _ _ ⟨bq,_,rfl,rfl⟩;refine Zq<|A0<|Zh 0 CT V rfl A6 Y<|Zl AF Y ?_;first|refine BV (CR (n:=1) Y Y) ?_|refine BV (CK Y Y) ?_
 refine Z0<|Zx ?_;first|refine Aq Y (fun k1=>?_) (fun k1=>?_)|refine AU Y (fun k1=>?_) (fun k1=>?_)
 ·
  refine Zq<|Zg ?_;first|(refine BV (BJ (j:=1) N0 A6 Y Y ?_) ?_;(focus (first|omega|decide|(simp;done))))|(refine BV (Cr (j:=1) N0 A6 Y Y ?_) ?_;(focus (first|omega|decide|(simp;done))))
  refine Zl AF Y ?_;refine Xr [_,_] Y S6 Y V (I1 G 9 AW AW af ax) ?_;first|(refine BV (ED (m:=1) Y Y ?_) ?_;(focus (omega)))|(refine BV (Hg Y Y (IntWalk.i64_in _ ?_)) ?_;(focus (omega)))
  refine Zh 3 CT rfl rfl A6 Y<|Xe (Zs A6 Y Y rfl (hi:=by first|omega|decide|(simp;done))) ?_;refine A5<|A0<|Zh 3 CT V rfl A6 Y<|Zl AF Y ?_;refine Zh 4 CT rfl rfl A6 Y<|Xe (Zs A6 Y Y rfl (hi:=by first|omega|decide|(simp;done))) ?_;refine Z0<|Zn [2,3] ?_;refine Zx<|A0<|Zo Wh (AA (cs:=#[_,_,_,_,_,_,_]) F2 CN Y Wb (by exact BK V)) ?_;refine Xe (BM CN Y Y q7 Wu (by exact Dx rfl) Fc Wb (by exact BC _)) ?_;refine A5<|AJ<|Zt<|Cs V results9 Y Wh (Am F2 CN Wn (BK V)) (by
   refine ⟨?_,V⟩;unfold Fz;rw [Ax A1]<;>rfl)
 refine AC<|Zx<|Zq<|Zg ?_;first|(refine BV (BJ (j:=1) N0 A6 Y Y ?_) ?_;(focus (first|omega|decide|(simp;done))))|(refine BV (Cr (j:=1) N0 A6 Y Y ?_) ?_;(focus (first|omega|decide|(simp;done))))
 refine Zl AF Y ?_;refine Xr [_,_] Y S6 Y V (I1 G 4 AW AW af ax) ?_;refine Zh 2 CT rfl rfl A6 Y<|Xe (Zs A6 Y Y rfl (hi:=by first|omega|decide|(simp;done))) ?_;refine A5<|Zq<|Zg ?_;first|(refine BV (BJ (j:=2) N0 A6 Y Y ?_) ?_;(focus (first|omega|decide|(simp;done))))|(refine BV (Cr (j:=2) N0 A6 Y Y ?_) ?_;(focus (first|omega|decide|(simp;done))))
 refine Zl AF Y ?_;refine Xr [_,_] Y S6 Y V (I1 q2 12 AW AW bn cu) ?_;first|(refine BV (CQ (n:=3) Y Y ?_ ?_) ?_;(focus (omega));(focus (omega)))|(refine BV (GN Y Y (IntWalk.i64_in _ ?_)) ?_;(focus (omega)))
 refine Zh 3 CT rfl rfl A6 Y<|Xe (Zs A6 Y Y rfl (hi:=by first|omega|decide|(simp;done))) ?_;refine Z0<|Zn [1,2,3] ?_;refine Zx<|Zq<|Az (n:=8) (0::1::0::4::12::31::63::127::[]) 144 AE AE V<|A2 0 V (AB (off:=3) CT V rfl A6 Y)<|B9 1 V AF Y ?_;first|(refine Dr (D':=7) 2 (BJ (j:=3) N0 A6 Y Y ?_) ?_;(focus (first|omega|decide|(simp;done))))|(refine Dr (D':=7) 2 (Cr (j:=3) N0 A6 Y Y ?_) ?_;(focus (first|omega|decide|(simp;done))))
 refine B9 3 V AF Y ?_;refine Yz 4 12 31 [3,1] [false,true] [(1,(_,_))] V Y V rfl V rfl (Zu [_,_] Y S6 Y V (I1 J 14 AW AW cO d9)) ?_;rintro _ _ ⟨rfl,rfl⟩;refine ⟨Zk (Aa),?_⟩;first|(refine Dr (D':=63) 5 (ED Y Y ?_) ?_;(focus (omega)))|(refine Dr (D':=63) 5 (Hg Y Y (IntWalk.i64_in _ ?_)) ?_;(focus (omega)))
 refine A2 6 rfl (AB (off:=4) CT rfl rfl A6 Y)<|Zz (l:=[7])<|B5 [false] [] rfl rfl (Zs A6 Y Y rfl (hi:=by first|omega|decide|(simp;done))) ?_ (fun _ _ h=>h.elim) Ah;rintro _ _ ⟨rfl,rfl⟩;refine BT<|Ag<|Zx<|Zb [1,2,3] ?_;refine DL (e0:=[]) (H0:=[[(bq,.cells #[I4 ((1+CL g 7:Nat):Int),I4 (CL (g.tdiv 7) 3:Int),I4 (CL G 4:Int),I4 ((CL q2 12:Int) -3),I4 ((CL q2 12:Int) -3+(CL J 14:Int)),I4 0,I4 0] 34 (0,0))]]) (fun e H=>∃(w5:Int),(w5=if 3<=CL g 7 then((1+CL I 3:Nat):Int)else 0)/\e=[]/\H=[[(bq,.cells #[I4 ((1+CL g 7:Nat):Int),I4 (CL (g.tdiv 7) 3:Int),I4 (CL G 4:Int),I4 ((CL q2 12:Int) -3),I4 ((CL q2 12:Int) -3+(CL J 14:Int)),I4 w5,I4 0] 34 (0,0))]]) Wp ?hx_19 ?hy_19
 case hx_19=>
  refine A0<|Zh 0 CT V rfl A6 Y<|Zl AF Y ?_;first|refine BV (G6 (n:=4) Y Y) ?_|refine BV (He Y Y) ?_
  refine Z0<|Zx ?_;first|refine Aq Y (fun k2=>?_) (fun k2=>?_)|refine AU Y (fun k2=>?_) (fun k2=>?_)
  ·
   refine Zg ?_;first|(refine BV (BJ (j:=4) N0 A6 Y Y ?_) ?_;(focus (first|omega|decide|(simp;done))))|(refine BV (Cr (j:=4) N0 A6 Y Y ?_) ?_;(focus (first|omega|decide|(simp;done))))
   refine Zl AF Y ?_;refine Xr [_,_] Y S6 Y V (I1 I 3 AW AW W X) ?_;first|(refine BV (ED (m:=1) Y Y ?_) ?_;(focus (omega)))|(refine BV (Hg Y Y (IntWalk.i64_in _ ?_)) ?_;(focus (omega)))
   refine Zh 5 CT rfl rfl A6 Y<|Xe (Zs A6 Y Y rfl (hi:=by first|omega|decide|(simp;done))) ?_;refine Z0<|Zn [1,2,3] ?_;refine BN (e':=[]) (by first|exact ⟨_,(Ax A1).symm,rfl,rfl⟩|exact ⟨0,(An A1).symm,rfl,rfl⟩)
  refine AC<|Zn [1,2,3] ?_;refine BN (e':=[]) (by first|exact ⟨_,(Ax A1).symm,rfl,rfl⟩|exact ⟨0,(An A1).symm,rfl,rfl⟩)
 rintro _ _ ⟨w5,gy,rfl,rfl⟩;refine Zb [1,2,3] ?_;refine DL (e0:=[(1,_)]) (H0:=[[(bq,.cells #[I4 ((1+CL g 7:Nat):Int),I4 (CL (g.tdiv 7) 3:Int),I4 (CL G 4:Int),I4 ((CL q2 12:Int) -3),I4 ((CL q2 12:Int) -3+(CL J 14:Int)),I4 w5,I4 0] 34 (0,0))]]) (fun e H=>∃(w6:Int),(w6=if CL g 7=6 then(CL (I.tdiv 3) 3:Int)else 0)/\e=[]/\H=[[(bq,.cells #[I4 ((1+CL g 7:Nat):Int),I4 (CL (g.tdiv 7) 3:Int),I4 (CL G 4:Int),I4 ((CL q2 12:Int) -3),I4 ((CL q2 12:Int) -3+(CL J 14:Int)),I4 w5,I4 w6] 34 (0,0))]]) Wp ?hx_22 ?hy_22
 case hx_22=>
  refine A0<|Zh 0 CT V rfl A6 Y<|Zl AF Y ?_;first|refine BV (CR (n:=7) Y Y) ?_|refine BV (CK Y Y) ?_
  refine Z0<|Zx ?_;first|refine Aq Y (fun k3=>?_) (fun k3=>?_)|refine AU Y (fun k3=>?_) (fun k3=>?_)
  ·
   refine Zg ?_;first|(refine BV (BJ (j:=4) N0 A6 Y Y ?_) ?_;(focus (first|omega|decide|(simp;done))))|(refine BV (Cr (j:=4) N0 A6 Y Y ?_) ?_;(focus (first|omega|decide|(simp;done))))
   refine Zl AF Y ?_;refine Zv (sH (m:=I) (n:=3) Y Y AW (IntWalk.i64_in _ (by have:=OZ 3 AW W X;omega)))<|Xr [_,_] Y S6 Y V (I1 (I.tdiv 3) 3 AW AW Z.1 Z.2) ?_;refine Zh 6 CT rfl rfl A6 Y<|Xe (Zs A6 Y Y rfl (hi:=by first|omega|decide|(simp;done))) ?_;refine Z0<|Zn [2,3] ?_;refine BN (e':=[]) (by first|exact ⟨_,(Ax A1).symm,rfl,rfl⟩|exact ⟨0,(An A1).symm,rfl,rfl⟩)
  refine AC<|Zn [2,3] ?_;refine BN (e':=[]) (by first|exact ⟨_,(Ax A1).symm,rfl,rfl⟩|exact ⟨0,(An A1).symm,rfl,rfl⟩)
 rintro _ _ ⟨w6,ic,rfl,rfl⟩;refine A0<|Zo Wh (AA (cs:=#[_,_,_,_,_,_,_]) F2 CN Y Wb (by exact BK V)) ?_;refine Xe (BM CN Y Y q7 Wu (by exact Dx rfl) Fc Wb (by exact BC _)) ?_;refine A5<|AJ<|Cs V results9 Y Wh (Am F2 CN Wn (BK V)) (by
  refine ⟨?_,V⟩;unfold Fz;rw [An A1,<-gy,<-ic]<;>rfl)
variable{M:List A9}{l:List BP}{q:QM}
set_option maxHeartbeats 1000000 in
theorem Pg{p:B6}{cap:Nat}(J:EE M (.slice p l.length cap) l)(g:FC l)(W:l.length<=1000000)(a:Nat)(U:a<=l.length)(hq:BF q)(B:(CS (Bb (l.take a)) q).length<=100)(te:Int)(O:AK)(Z:Nat×Nat):BZ prog 8 #[.slice p l.length cap,I4 (a:Int),.agg q.A98,I4 te] [[(2,.cells (Er.map Ct).toArray O Z)],M] (fun w H'=>∃(mem:List A9) (I:B6) (G:Nat),FW mem (.slice I (Ff (Bb (l.take a)) q).length G) (Ff (Bb (l.take a)) q)/\w= .agg #[I4 q.kd,I4 q.tb,I4 q.cl,I4 q.lo,I4 q.hi,I4 q.bq,I4 q.ot,I4 te,I4 (a:Int),.slice I (Ff (Bb (l.take a)) q).length G]/\H'=[mem,[(2,.cells (Er.map Ct).toArray O Z)],M]):=by
 have d9:=mL;obtain ⟨p9,af,e9,⟨cu,cO⟩,_⟩:=id J;injection e9 with e91 e92 e93
 subst e91 e93;obtain ⟨hs,hn⟩:=g.rows a U;have X:=g.rowsOk a U
 obtain ⟨L,hL⟩:∃L,L=Ff (Bb (l.take a)) q:=⟨_,rfl⟩;rw [<-hL];refine Se func8 ntmps8 [0,1,2,3] ?_;intro u R;refine A0<|Ze (Bx q.A98)<|AG fun bq=>Ze (EZ cD (cs:=#[I4 0,I4 0,I4 0,I4 0,I4 0,I4 0,I4 0,I4 0,I4 0,.slice none 0 0]) AE)<|AG fun be=>A5<|A0<|Zm Y<|Zm Y<|Zc [_,_] Y call33 Y V (xv J g W a U) ?_;rintro _ _ ⟨_,⟨vs,ss,rfl,hS,rfl⟩,rfl⟩;refine Zm Y<|Zd Y V<|Zd Y V<|Za Y<|A4 Y<|A0<|Zm Y<|Zo Wh (AA (cs:=#[_,_,_,_,_,_,_]) F2 CN Y B1 (by exact BK V)) ?_;refine Zc [_,_] Y call34 Y V (tm _ _ _ _ hS hs hn X q hq B O Z) ?_;rintro _ _ ⟨_,⟨vo,mem,rfl,m,rfl⟩,rfl⟩;rw [<-hL]at m;obtain ⟨I,G,rfl,ax,bn⟩:=m.form;refine Zm Y<|Zd Y V<|Zd Y V<|Za Y<|AN Y<|Zn [1,3,6,8,11] ?_;refine Zx<|A0<|Zo Wh (AA (cs:=#[_,_,_,_,_,_,_]) F2 CN Y B1 (by exact BK V)) ?_;refine Zm Y<|Zm Y<|Zm Y<|Zv (BL (vs:=[(0,.agg q.A98),(1,I4 te),(2,I4 (a:Int)),(3,.slice I L.length G)]) (cs:=#[I4 q.kd,I4 q.tb,I4 q.cl,I4 q.lo,I4 q.hi,I4 q.bq,I4 q.ot,I4 te,I4 (a:Int),.slice I L.length G]) Y (AZ (pl:=#[(0,7),(7,1),(8,1),(9,1)]) cD G4 (fun _=>by kernel_rfl) AE))<|Xe (BM HH Y Y HT Wu (by exact Dx rfl) Fc AW (by exact BC _)) ?_;refine A5<|AJ<|Cs V results8 Y Wh (Am S5 HH Wn (BK V)) (by exact ⟨mem,I,G,m,V,V⟩)
def exQ:QM:=⟨3,0,1,10,19,0,0⟩
theorem UE:BF exQ:=by decide
variable{rs:List AX}
theorem TC(g:BQ rs)(hn:rs.length<=2000)(t c:Nat)(lo hi:Int):(En rs t c lo hi).fits:=by
 have m:=JL g (t:Int) c;refine ⟨?_,?_,?_,ZC g hn t c lo hi⟩
 · show(List.take _ (List.drop _ (BI rs (t:Int) c))).length<=_
   rw [CC,CD];omega
 · show(JJ _ _ _).length<=_
   have h2:toT (BI rs (t:Int) c) c hi<=(BI rs (t:Int) c).length:=pZ _ _;unfold JJ;rw [B8,cU];omega
 · show(dY rs).length<=_
   unfold dY;rw [B8];decide
theorem gK(g:BQ rs)(hn:rs.length<=2000)(q:QM):∀x∈Ff rs q,x.fits:=fun x hx=>by
 unfold Ff at hx;rcases DB.1 hx with rfl|hx
 · exact TC g hn _ _ _ _
 · split at hx
   · obtain ⟨r,_,rfl⟩:=C3.1 hx
     exact TC g hn _ _ _ _
   · cases hx
structure Ld(l:List BP):Prop where
 ok:FC l
 len:l.length<=1000
 scan:∀a,a<=l.length->∀q,(CS (Bb (l.take a)) q).length<=100
theorem FC.toB(h:FC l)(m:l.length<=20):Ld l:=⟨h,by omega,fun a g q=>qZ h m g q⟩
variable{a:Nat}
theorem Ld.start(h:Ld l)(g:a<=l.length)(m:BF q):Ea q (Ff (Bb (l.take a)) q)=some (Ci (Bb (l.take a)) q):=dh (h.ok.rows a g).1 (h.ok.rows a g).2 (h.ok.rowsOk a g) m (h.scan a g q)
theorem Ld.make_len(h:Ld l)(g:a<=l.length)(q:QM):(Ff (Bb (l.take a)) q).length<=101:=by
 have m:=nH (Bb (l.take a)) q;have h2:=h.scan a g q
 omega
theorem Ld.fits(h:Ld l)(g:a<=l.length)(q:QM):∀x∈Ff (Bb (l.take a)) q,x.fits:=gK (h.ok.rows a g).1 (h.ok.rows a g).2 q
def pR(l:List BP)(P:Nat)(win:List BP):Prop:=win.length<=P/\win.map BP.pc=((l.take P).drop (P -win.length)).map BP.pc
theorem OT(l:List BP)(P:Nat):pR l P []:=⟨C5 _,by
 rw [List.drop_eq_nil_of_le (by simp only [CC,LI];omega)]⟩
variable{P:Nat}{r:BP}
theorem ko{W W':List BP}{x:BP}(h:pR l P W)(hx:l[P]?=some x)(g:r.pc=x.pc)(m:Jt W W' r):pR l (P+1) W':=by
 obtain ⟨J,h2⟩:=h;have G:=(C4.1 hx).1
 have I:(l.take P).length=P:=by rw [CC];omega
 unfold pR;rw [Bn hx];rcases m with⟨rfl,B⟩|⟨rfl,B⟩
 · rw [BW,Fl,show P+1 -(W.length+1)=P -W.length by omega,iu A1,C2,C2,h2,Mp,Mp,g]
   exact ⟨by omega,V⟩
 · have e:((W++[r]).drop 1).length=64:=by rw [CD,BW,Fl];omega
   have e1:(W++[r]).drop 1=W.drop 1++[r]:=iu A1;have e2:(l.take P++[x]).drop (P+1 -64)=(l.take P).drop (P+1 -64)++[x]:=iu A1
   rw [e,e1,e2,C2,C2,ka,h2,<-ka,bj,show P -W.length+1=P+1 -64 by omega,Mp,Mp,g];exact ⟨by omega,V⟩
theorem K8{win:List BP}(h:pR l P win)(m:a<=P)(B:P -a<=win.length):(DC (P:Int) (a:Int) win).map BP.pc=(NU l a P).map BP.pc:=by
 obtain ⟨g,h2⟩:=h;unfold DC NU;rw [show((P:Int) -(a:Int)).toNat=P -a by omega,ka,h2,<-ka,bj,show P -win.length+(win.length -(P -a))=a by omega,fj]
structure GG(l:List BP)(P:Nat)(c:CZ):Prop where
 ok:c.ok
 pos:c.pos=(P:Int)
 le:P<=l.length
 win:pR l P c.win
 src:∀x∈c.its,∃a:Nat,x.base=(a:Int)/\a<=l.length/\x.L=Ff (Bb (l.take a)) x.q
theorem GG.at{l:List BP}(O:Ld l){P:Nat}{c:CZ}(h:GG l P c){x:ItM}(hx:x∈c.its):∃a:Nat,x.base=(a:Int)/\a<=l.length/\x.L=Ff (Bb (l.take a)) x.q/\(a<=P->P -a<=c.win.length/\x.res=Ci (Bb (l.take P)) x.q/\wP x.q l a (P -a) x.since/\GK x.q (a:Int) 0 (Ci (Bb (l.take a)) x.q,(a:Int)) (NU l a P)=some (x.res,x.since))/\(P<=a->x.res=Ci (Bb (l.take a)) x.q/\x.since=(a:Int)):=by
 obtain ⟨a,I,h2,J⟩:=h.src x hx;have B:=h.ok.all x hx
 obtain ⟨X,m,g⟩:=B.run;rw [J,O.start h2 B.q]at m;injection m with m
 subst m;have G:=B.reach
 rw [h.pos,I]at g G;refine ⟨a,I,h2,J,fun U=>?_,fun U=>?_⟩
 · have e:=K8 h.win U A1
   rw [Oq e]at g;have W:=h.le
   obtain ⟨e1,e2⟩:=QB B.q O.ok h2 (P -a) A1 _ g;rw [show a+(P -a)=P by omega]at e1;exact ⟨by omega,e1,e2,g⟩
 · rw [Lf A1]at g
   injection g with g
   exact ⟨(congrArg Prod.fst g).symm,(congrArg Prod.snd g).symm⟩
variable{d c:CZ}{b:Bool}
theorem GG.put(h:GG l P c)(G:d.ok)(g:c.like d){tn:Int}(B:a<=l.length){R:CB×Int×Bool}(m:ri c d q tn (a:Int) (Ff (Bb (l.take a)) q) R b):GG l P d:=by
 refine ⟨G,g.pos.trans h.pos,h.le,by rw [g.win];exact h.win,fun x hx=>?_⟩;rcases m with⟨_,rfl,_⟩|⟨_,_,_,⟨rfl,_⟩|⟨_,y,e,e1,e2,e3,_⟩⟩
 · exact h.src x hx
 · exact h.src x hx
 · rw [e]at hx
   rcases Bm.1 hx with hx|hx
   · exact h.src x (FF.1 hx).1
   · rw [C1.1 hx,e1,e2,e3];exact ⟨a,rfl,B,rfl⟩
variable{q2:B6}{cap2:Nat}{zs:List Bk}
theorem GG.apply(I:Ld l)(h:GG l P c)(m:l[P]?=some r)(g:GH c d r.p r.cs q2 cap2 zs):GG l (P+1) d:=by
 have J:=(C4.1 m).1;have B:=(I.ok P r m).1.pos
 refine ⟨g.ok,by rw [g.pos,B];push_cast;rfl,by omega,ko (r:=⟨r.p,q2,cap2,r.cs⟩) h.win m rfl g.win,fun y hy=>?_⟩;obtain ⟨_,x,hx,hc,_⟩:=g.i1 y hy;obtain ⟨_,_,e1,_,e2,_,_,G⟩:=H7 hc;rw [e1,e2,G];exact h.src x hx
theorem GG.next(m:Ld l)(h:GG l P c)(B:l[P]?=some r):EM r.p r.cs/\r.p=c.pos+1:=by
 have g:=(m.ok P r B).1;exact ⟨g.ok,by rw [g.pos,h.pos]⟩
theorem GG.part(h:GG l P c)(m:d.ok)(g:c.like d)(B:∀x∈d.its,x∈c.its):GG l P d:=⟨m,g.pos.trans h.pos,h.le,by rw [g.win];exact h.win,fun x hx=>h.src x (B x hx)⟩
theorem bE(lt:Int->Int->Bool):∀(ms:List Int) (r:CB),(ms.foldl (fun r n=>(⟨r.rows,if !r.fnd||lt n r.val then n else r.val,true⟩:CB)) r).rows=r.rows
 |[],_=>rfl
 |n::ms,r=>by rw [V1,bE lt ms]
theorem oN(rs:List AX)(q:QM):(Ci rs q).rows.length<=2*(CS rs q).length:=by
 have g:=Tt q (CS rs q) (IW rs q.ot);have hx:∀lt ms,(EX lt ms).rows=[]:=fun lt ms=>bE lt ms CB.none
 unfold Ci FV;split;· exact C5 _
 · split
   · exact C5 _
   · split
     · rw [hx];exact C5 _
     · split
       · rw [hx];exact C5 _
       · split
         · exact g
         · show(CS rs q).length<=_;omega
variable{n:Nat}
theorem Z9(J:Ld l)(h:GG l P c)(U:BF q)(G:a<=l.length)(hn:∀b,b<=l.length->(Ci (Bb (l.take b)) q).rows.length<=n)(B:(c.pos -(a:Int)).toNat<=c.win.length):(BD q (Ci (Bb (l.take a)) q) (a:Int) (DC c.pos (a:Int) c.win)).1.rows.length<=n:=by
 cases hr:(BD q (Ci (Bb (l.take a)) q) (a:Int) (DC c.pos (a:Int) c.win)).2.2 with
 |false=>
  have g:BD q (Ci (Bb (l.take a)) q) (a:Int) (DC c.pos (a:Int) c.win)=(CB.none,0,false):=by
   unfold BD at hr⊢;split at hr;· cases hr
   · rfl
  rw [g];exact C5 _
 |true=>
  have g:=M0 hr;rw [h.pos]at g B⊢;by_cases m:a<=P
  · rw [Oq (K8 h.win m A1)]at g
    have O:=h.le;have h2:=(QB U J.ok G (P -a) A1 _ g).1
    have I:(BD q (Ci (Bb (l.take a)) q) (a:Int) (DC (P:Int) (a:Int) c.win)).1=_:=h2;rw [I];exact hn _ A1
  · rw [Lf A1]
    exact hn a G
def dG(l:List BP)(P:Nat)(c:CZ)(q:QM)(a:Nat):Prop:=P -a<=c.win.length/\∃st,GK q (a:Int) 0 (Ci (Bb (l.take a)) q,(a:Int)) (NU l a P)=some st
theorem QH(h:P<=a):dG l P c q a:=⟨by omega,(Ci (Bb (l.take a)) q,(a:Int)),by
 rw [show NU l a P=[] by unfold NU;rw [show P -a=0 by omega,Kd]];rfl⟩
def YJ(l:List BP)(P:Nat)(c d:CZ)(q:QM)(tn:Int)(a:Nat)(n:Nat)(b:Bool):Prop:=
 (b=false/\d=c/\¬dG l P c q a)\/
 (b=true/\dG l P c q a/\(∀e∈d.PL,e∈c.PL\/e.sz<=1+(n:Int))/\
   ((d=c/\∃x∈c.its,x.key=str (CJ q)/\(a:Int)<=x.base)\/
    ((∀x∈c.its,x.key=str (CJ q)->x.base<(a:Int))/\∃y:ItM,d.its=(c.its.filter fun x=>x.key≠str (CJ q))++[y]/\y.q=q/\y.base=(a:Int)/\((y.tn=tn/\∀x∈c.its,x.key≠str (CJ q))\/∃x∈c.its,x.key=str (CJ q)/\y.tn=x.tn))))
theorem Vb(h:GG l P c):((c.pos -(a:Int)).toNat<=c.win.length/\(BD q (Ci (Bb (l.take a)) q) (a:Int) (DC c.pos (a:Int) c.win)).2.2=true)↔dG l P c q a:=by
 rw [h.pos];unfold dG;rw [show((P:Int) -(a:Int)).toNat=P -a by omega];by_cases g:P -a<=c.win.length
 · have e:GK q (a:Int) 0 (Ci (Bb (l.take a)) q,(a:Int)) (DC (P:Int) (a:Int) c.win)=GK q (a:Int) 0 (Ci (Bb (l.take a)) q,(a:Int)) (NU l a P):=by
    by_cases B:a<=P
    · exact Oq (K8 h.win B g)
    · rw [Lf A1,show NU l a P=[] by unfold NU;rw [show P -a=0 by omega,Kd]]
   unfold BD;rw [e];constructor
   · rintro ⟨_,h2⟩
     refine ⟨g,?_⟩;split at h2;· rename_i st h3;exact ⟨st,h3⟩
     · cases h2
   · rintro ⟨_,st,h2⟩
     rw [h2];exact ⟨g,V⟩
 · exact ⟨fun m=>absurd m.1 g,fun m=>absurd m.1 g⟩
variable{k:Nat}
theorem u7(g:Ld l)(h:GG l P c)(I:BF q)(hk:k<c.ns)(X:k<=1000000)(m:a<=l.length){pg:B6}{cg:Nat}{J:List A9}(hL:FW J (.slice pg (Ff (Bb (l.take a)) q).length cg) (Ff (Bb (l.take a)) q))(ax:c.next<1000000000)(B:c.its.length<500)(hn:∀b,b<=l.length->(Ci (Bb (l.take b)) q).rows.length<=n)(cu:1+(n:Int)<=c.z.fr)(O:AK)(zp:Nat×Nat):
 BZ prog 7 #[.pointer (some ⟨c.cp,0,none⟩),.agg #[I4 q.kd,I4 q.tb,I4 q.cl,I4 q.lo,I4 q.hi,I4 q.bq,I4 q.ot,I4 (k:Int),I4 (a:Int),.slice pg (Ff (Bb (l.take a)) q).length cg]] [c.mem,J,[(1,.cells (Lib.pow10Tab.map fun z=>Value.int .u64 z).toArray O zp)]] (fun w H'=>∃(b:Bool) (d:CZ),w= .bool b/\GG l P d/\c.like d/\(c.next<=d.next/\d.next<=c.next+1)/\YJ l P c d q (k:Int) a n b/\H'=[d.mem,J,[(1,.cells (Lib.pow10Tab.map fun z=>Value.int .u64 z).toArray O zp)]]):=by
 have Z:=g.len;refine (yy h.ok I hk X (a:Int) ⟨by omega,by omega⟩ hL (by have:=g.make_len m q;omega) (g.fits m q) (g.start m I) ax B (fun bn=>by have:=Z9 g h I m hn bn;omega) O zp).mono ?_;rintro w H' ⟨b,d,rfl,hd,G,af,hP,rfl⟩;refine ⟨b,d,V,h.put hd G m hP,G,af,?_,V⟩;rcases hP with⟨U,h2,W⟩|⟨U,h2,W,h4⟩
 · exact .inl ⟨U,h2,fun h9=>W ((Vb h).2 h9)⟩
 · refine .inr ⟨U,(Vb h).1 h2,fun e he=>(W e he).imp id fun h9=>by have:=Z9 g h I m hn h2.1;omega,?_⟩
   rcases h4 with h4|⟨h4,y,e1,e2,e3,_,_,_,e4⟩
   · exact .inl h4
   · exact .inr ⟨h4,y,e1,e2,e3,e4⟩
theorem Xh(G:Ld l)(h:GG l P c)(I:l[P]?=some r){m:List A9}(O:Cf m (.slice r.q r.cs.length r.cap) r.cs):BZ prog 14 #[.pointer (some ⟨c.cp,0,none⟩),.agg #[I4 r.p,.slice r.q r.cs.length r.cap]] [c.mem,m] (fun w H'=>∃(d:CZ) (q2:B6) (cap2:Nat) (zs:List Bk) (tv:A3) (s:List A9),w= .tuple #[tv,I4 0]/\GG l (P+1) d/\GH c d r.p r.cs q2 cap2 zs/\Row 9 tv (zs.map Value.string) s/\H'=[d.mem,m,s]):=by
 obtain ⟨J,h2⟩:=h.next G I;refine (tw h.ok O J h2).mono ?_;rintro w H' ⟨d,q2,cap2,zs,tv,s,rfl,B,g,rfl⟩;exact ⟨d,q2,cap2,zs,tv,s,V,h.apply G I B,B,g,V⟩
variable{i:Nat}
theorem rH{p:B6}{cap:Nat}(h:EE M (.slice p l.length cap) l)(G:l[i]?=some r):Cf M (.slice r.q r.cs.length r.cap) r.cs/\∃g off cur T zz,p=some ⟨g,off,none⟩/\(g,Obj.cells cur T zz)∈M/\off+i*2+2<=cur.size/\cur.extract (off+i*2) (off+i*2+2)=#[I4 r.p,.slice r.q r.cs.length r.cap]:=by
 obtain ⟨I,m,e,_,B⟩:=h;injection e with e1 e2 e3
 subst e1 e3;exact B i r G
theorem YE(g:1<=q.kd/\q.kd<=4)(r:CB)(cs:List Chg):(Ba q r cs).2.2=true:=by
 obtain ⟨B,m⟩:=Sg g cs r;unfold Ba;rw [m]
theorem uB{K:Bk}(g:∀k,k∈zs↔k=K)(h2:zs.Nodup):zs=[K]:=by
 cases zs with
 |nil=>exact absurd ((g K).2 rfl) B4
 |cons a l=>
  have m:=(g a).1 (EV ..);subst m;cases l with
  |nil=>rfl
  |cons b l=>
   have B:=(g b).1 B4;subst B;simp at h2
variable{e:AK}{v:A3}{s:List A9}
theorem xV{xs:List A3}(h:Row e v xs s)(hx:0<xs.length):∃g cap cur z,v=I6 g xs.length cap/\s=[(g,.cells cur e z)]/\xs.length<=cur.size/\∀i,i<xs.length->cur[i]?=xs[i]?:=by
 rcases h with⟨_,h0,_⟩|⟨g,cap,cur,z,rfl,rfl,h1,h2,h3,h4,h5⟩
 · rw [h0]at hx;cases hx
 · refine ⟨g,cap,cur,z,rfl,rfl,by omega,fun i hi=>?_⟩
   have h:=congrArg (fun l=>l[i]?) h4;simp only [HJ,Ax hi]at h;simpa using h
theorem Sl(g:Nat)(v:A3):Row e (I6 g 1 1) [v] [(g,.cells #[v] e (0,0))]:= .inr ⟨g,1,#[v],(0,0),rfl,rfl,D2 1,by decide,rfl,rfl,BC _⟩
theorem xK(h:c.okb)(B:c.ns=1){x:ItM}(hi:c.its=[x])(G:∀e∈c.PL,e.sz<=1):Eu c.PL ((0:Nat):Int)=1:=by
 have h2:(c.PL.map (·.key)).Perm (c.its.map ItM.key):=(S7 h.pool.keys h.its.keys).2 h.pk;have m:=h2.length_eq
 rw [B8,B8,hi]at m
 match hP:c.PL,m with
 |[e],_=>
  have g:e∈c.PL:=by rw [hP];simp
  have I:=h.pool.te e g;have J:=h.pool.sz e g
  have O:=G e g;unfold Eu;rw [Mp,List.sum_singleton,Ax A1];omega
def exD(k a b:Int):Chg:=⟨0,k,false,⟨0,0,0⟩,true,⟨a,b,7⟩⟩
def bH(p1 p2:B6):List BP:=[⟨1,p1,1,[exD 5 10 2]⟩,⟨2,p2,1,[exD 6 11 9]⟩]
variable{p:Int}
theorem xx{k a b:Int}(g:1<=p/\p<=10000)(h:(exD k a b).ok):EM p [exD k a b]:=⟨g,⟨D2 _,by show 1<=8;decide⟩,fun i c hc=>by
 match i,hc with
 |0,hc=>injection hc with hc;rw [<-hc];exact h
 |i+1,hc=>simp at hc,fun i b c m hc=>by simp at hc⟩
theorem kN{k a b:Int}(m:1<=p+1/\p+1<=10000)(h:(exD k a b).ok)(g:GV rs (exD k a b))(hz:Gu rs [exD k a b]<=2000):Kh rs p (p+1) [exD k a b]:=⟨xx m h,rfl,fun c hc=>by rw [C1.1 hc];exact g,hz⟩
def exS:Nat->List AX
 |0=>[]
 |1=>[⟨0,5,⟨10,2,7⟩⟩]
 |_=>[⟨0,5,⟨10,2,7⟩⟩,⟨0,6,⟨11,9,7⟩⟩]
theorem WT(g m:B6):Bb ((bH g m).take 0)=exS 0/\Bb ((bH g m).take 1)=exS 1/\Bb ((bH g m).take 2)=exS 2:=⟨rfl,by kernel_rfl,by kernel_rfl⟩
theorem yl(m B:B6):FC (bH m B):=fun i r g=>by
 obtain ⟨h0,G,_⟩:=WT m B
 match i,g with
 |0,g=>injection g with g;subst g;rw [h0];exact ⟨kN (p:=0) AW AW (by unfold GV;decide) AW,by show 1<=3;decide⟩
 |1,g=>injection g with g;subst g;rw [G];exact ⟨kN (p:=1) AW AW (by unfold GV;decide) AW,by show 1<=3;decide⟩
 |i+2,g=>simp [bH]at g
structure rm(l:List BP):Prop where
 b:Ld l
 len:l.length=2
 e2:(Ci (Bb (l.take 2)) exQ).val=2
 e1:(Ci (Bb (l.take 1)) exQ).val=1
 two:∃r,l[1]?=some r/\(∃ch∈r.cs,Cq exQ ch=true)/\SA exQ r=true
theorem UK(rs:List AX):(Ci rs exQ).rows=[]:=rfl
theorem vF(g m:B6):rm (bH g m):=by
 obtain ⟨_,B,h2⟩:=WT g m;refine ⟨(yl g m).toB (by show 2<=20;decide),rfl,by rw [h2];decide,by rw [B];decide,_,rfl,⟨exD 6 11 9,.head _,by decide⟩,?_⟩;exact (by decide:[exD 6 11 9].any (Dk exQ)=true)
theorem WP(hi:c.its=[])(g:c.PL=[]){tn:Int}(B:P<=a)(m:YJ l P c d q tn a n b):b=true/\∃y:ItM,d.its=[y]/\y.q=q/\y.key=str (CJ q)/\y.base=(a:Int)/\∀e∈d.PL,e.sz<=1+(n:Int):=by
 rcases m with⟨_,_,h⟩|⟨h1,_,h2,⟨_,x,hx,_⟩|⟨_,y,h3,h4,h5,_⟩⟩
 · exact absurd (QH B) h
 · rw [hi]at hx;cases hx
 · refine ⟨h1,y,by rw [h3,hi];rfl,h4,by unfold ItM.key;rw [h4],h5,fun e G=>?_⟩
   rcases h2 e G with h9|h9
   · rw [g]at h9;cases h9
   · exact h9
theorem Yt{xs:List A3}(h:Row e v xs s)(hn:xs.length=n)(h0:0<n):∃g cap cur z,v=I6 g n cap/\s=[(g,.cells cur e z)]/\n<=cur.size/\∀i,i<n->cur[i]?=xs[i]?:=by
 subst hn;exact xV h h0
theorem jZ{xs:List A3}(h:Row e v xs s)(hn:xs.length=n):∃p cap,v= .slice p n cap:=by
 subst hn;obtain ⟨p,cap,h⟩:=h.form;exact ⟨p,cap,h⟩
variable{cs:List Chg}
theorem sQ(g:GH c d p cs q2 cap2 zs){y:ItM}(hi:c.its=[y])(B:VB cs y)(m:y.base<p):zs=[y.key]:=uB (fun k=>by
 rw [g.z1,hi];constructor;· rintro ⟨x,hx,rfl,_⟩;rw [C1.1 hx]
 · rintro rfl;exact ⟨y,by simp,rfl,B,m⟩) g.z2
theorem wm(g:GH c d p cs q2 cap2 zs)(m:∀x∈c.its,p<=x.base):zs=[]:=s7.2 fun k B=>by
 obtain ⟨x,hx,_,_,h⟩:=(g.z1 k).1 B;have:=m x hx
 omega
theorem kD(J:GH c d p cs q2 cap2 zs){y:ItM}(hi:c.its=[y])(X:p -64<=y.base)(Z:1<=y.q.kd/\y.q.kd<=4):∃m,d.its=[m]/\m.q=y.q/\m.key=y.key/\m.base=y.base:=by
 obtain ⟨m,G,hc⟩:=J.i2 y (by rw [hi];simp) X fun _ _=>YE Z _ _;have O:=J.ok.its.keys
 have g:∀w∈d.its,w=m:=fun w U=>by
  obtain ⟨_,x,hx,B,_⟩:=J.i1 w U;rw [hi]at hx;rw [C1.1 hx]at B;exact GL O U G ((Ii B).trans (Ii hc).symm)
 obtain ⟨_,_,e1,_,e2,_⟩:=H7 hc;refine ⟨m,?_,e1,Ii hc,e2⟩;have I:=O
 match hE:d.its,G,I with
 |[w],_,_=>rw [g w (by rw [hE];simp)]
 |w::w2::L,_,I=>
  have W:=g w (by rw [hE];simp);have h2:=g w2 (by rw [hE];simp)
  rw [W,h2]at I;simp at I
theorem bW{g:Nat}{T:AK}{z:Nat×Nat}{cur:AH}{c:Chg}(B:(g,Obj.cells cur T z)∈M)(G:10<=cur.size)(m:cur.extract 0 10=c.A96):Cf M (I6 g [c].length 1) [c]:=⟨_,_,rfl,by show 1<=maxLen;decide,fun i x hx=>by
 match i,hx with
 |0,hx=>injection hx with hx;subst hx;exact ⟨g,0,cur,T,z,rfl,B,by omega,by simpa using m⟩
 |i+1,hx=>simp at hx⟩
theorem vE(G I B:Nat):∃(l:List BP) (M:List A9),M=[(G,Obj.cells #[I4 0,I4 5,.bool false,I4 0,I4 0,I4 0,.bool true,I4 10,I4 2,I4 7] 64 (0,0))]++([(I,Obj.cells #[I4 0,I4 6,.bool false,I4 0,I4 0,I4 0,.bool true,I4 11,I4 9,I4 7] 64 (0,0))]++[(B,Obj.cells #[I4 1,I6 G 1 1,I4 2,I6 I 1 1] 50 (0,0))])/\rm l/\EE M (I6 B l.length 2) l:=by
 refine ⟨bH (some ⟨G,0,none⟩) (some ⟨I,0,none⟩),_,V,vF _ _,⟨_,_,V,⟨by show 2<=maxLen;decide,D2 _⟩,fun i r m=>?_⟩⟩
 match i,m with
 |0,m=>injection m with m;subst m;exact ⟨bW (g:=G) (c:=exD 5 10 2) (.head _) AW rfl,B,0,_,_,_,rfl,.tail _ (.tail _ (.head _)),eC rfl,rfl⟩
 |1,m=>injection m with m;subst m;exact ⟨bW (g:=I) (c:=exD 6 11 9) (.tail _ (.head _)) AW rfl,B,0,_,_,_,rfl,.tail _ (.tail _ (.head _)),eC rfl,rfl⟩
 |i+2,m=>simp [bH]at m
set_option maxHeartbeats 4000000 in
theorem tG(Tg:AK)(zg:Nat×Nat)(Tp:AK)(zp:Nat×Nat):BB prog 4 #[] [[(2,.cells (Er.map Ct).toArray Tg zg)],[(1,.cells (Lib.pow10Tab.map fun z=>Value.int .u64 z).toArray Tp zp)]] (.bool true):=by
 have hml:=mL;refine Se func4 ntmps4 [] ?_;intro u R;refine A0<|A4 Y<|A0<|Zv (BL (vs:=[(0,_),(1,_),(2,_)]) (cs:=#[_,_,_]) Y (DI cy Hh A6 V))<|Zv (BL (vs:=[(1,I4 5),(4,.bool true),(5,.agg #[I4 10,I4 2,I4 7])]) (cs:=#[I4 0,I4 5,.bool false,I4 0,I4 0,I4 0,.bool true,I4 10,I4 2,I4 7]) Y (AZ (pl:=#[(0,1),(1,1),(2,1),(3,3),(6,1),(7,3)]) MA C0 (fun _=>by kernel_rfl) AE))<|Ze (Ai (vs:=[_]) (cs:=[_,_,_,_,_,_,_,_,_,_]) GF C7 MA Y V rfl V rfl V)<|AG fun g1=>Zv (BL (vs:=[(0,_),(1,_)]) (cs:=#[_,_]) Y (AZ (pl:=#[(0,1),(1,1)]) S2 Ge (fun _=>by kernel_rfl) V))<|Zv (BL (vs:=[(0,_),(1,_),(2,_)]) (cs:=#[_,_,_]) Y (DI cy Hh A6 V))<|Zv (BL (vs:=[(1,I4 6),(4,.bool true),(5,.agg #[I4 11,I4 9,I4 7])]) (cs:=#[I4 0,I4 6,.bool false,I4 0,I4 0,I4 0,.bool true,I4 11,I4 9,I4 7]) Y (AZ (pl:=#[(0,1),(1,1),(2,1),(3,3),(6,1),(7,3)]) MA C0 (fun _=>by kernel_rfl) AE))<|Ze (Ai (vs:=[_]) (cs:=[_,_,_,_,_,_,_,_,_,_]) GF C7 MA Y V rfl V rfl V)<|AG fun g2=>Zv (BL (vs:=[(0,_),(1,_)]) (cs:=#[_,_]) Y (AZ (pl:=#[(0,1),(1,1)]) S2 Ge (fun _=>by kernel_rfl) V))<|Ze (Ai (vs:=[_,_]) (cs:=[_,_,_,_]) GO F1 S2 Y V rfl V rfl V)<|AG fun g0=>A4 Y<|Zq<|CP (s1:=[(g2,Obj.cells #[I4 0,I4 6,.bool false,I4 0,I4 0,I4 0,.bool true,I4 11,I4 9,I4 7] 64 (0,0))]) (s2:=[(g0,Obj.cells #[I4 1,I6 g1 1 1,I4 2,I6 g2 1 1] 50 (0,0))]) Wo Wo ?_;refine CP (s1:=[(g1,Obj.cells #[I4 0,I4 5,.bool false,I4 0,I4 0,I4 0,.bool true,I4 10,I4 2,I4 7] 64 (0,0))]) (s2:=([(g2,Obj.cells #[I4 0,I4 6,.bool false,I4 0,I4 0,I4 0,.bool true,I4 11,I4 9,I4 7] 64 (0,0))]++[(g0,Obj.cells #[I4 1,I6 g1 1 1,I4 2,I6 g2 1 1] 50 (0,0))])) Wo Wo ?_;obtain ⟨l,M,hM,hx,qa⟩:=vE g1 g2 g0;rw [<-hM];have zk:=hx.len
 rw [show(Value.slice (some ⟨g0,0,none⟩) 2 2:A3)=I6 g0 l.length 2 by rw [zk]];obtain ⟨r2,O,x9,LB⟩:=hx.two;obtain ⟨Z,gm,offm,curm,Tm,zm,sj,r9,hszm,af⟩:=rH qa O;injection sj with sj
 injection sj with hpm1 hpm2 _
 subst hpm1 hpm2;refine Zg<|Zv (BL (vs:=[(0,I4 3),(2,I4 1),(3,I4 10),(4,I4 19)]) (cs:=#[I4 3,I4 0,I4 1,I4 10,I4 19,I4 0,I4 0]) Y (AZ (pl:=#[(0,1),(1,1),(2,1),(3,1),(4,1),(5,1),(6,1)]) N2 CT (fun _=>by kernel_rfl) AE))<|Ze (Al N2 #[_,_,_,_,_,_,_])<|AG fun bq=>Xe (Xw CN #[I4 3,I4 0,I4 1,I4 10,I4 19,I4 0,I4 0])<|Z0<|Zn [1,2] ?_;refine Zx<|A0<|Zo Wh (AA (cs:=#[_,_,_,_,_,_,_]) F2 CN Y AW (BK V))<|Xr [_] Y call11 Y V (Kt exQ UE Tp zp)<|Zm Y<|Zd Y V<|Zd Y V<|Za Y<|A4 Y<|A0<|Ze (Ai (vs:=[_]) (cs:=[_]) DH A6 HG Y V rfl V rfl V)<|AG fun gs=>Zc [_,_,_] Y call6 Y V (oA (sh:=[5]) (Sl gs (I4 5)) 1 10 AW AW AW AW AW) ?_;rintro _ _ ⟨_,⟨c0,rfl,Ps,⟨U,o9,hw0⟩,Ta,zy,p9,X,rfl⟩,rfl⟩;have L0:GG l 1 c0:=⟨Ps,Ta,by omega,by rw [hw0];exact OT l 1,fun x G=>by rw [U]at G;cases G⟩
 refine Zm Y<|Zd Y V<|Zd Y V<|Za Y<|AN Y<|Zn [1,2,3,5,6] ?_;refine Zx<|A0<|Ze (Ai (vs:=[_]) (cs:=[_]) DH A6 HG Y V rfl V rfl V)<|AG fun P6=>Xr [_,_,_] Y call6 Y V (vT (-1) 10 (I6 P6 1 1) AW)<|Zm Y<|Zd Y V<|Zd Y V<|Za Y<|A4 Y<|Zq<|A0<|Zm Y<|Zv (Be Lz Y Y)<|Zm Y<|Ae (t:=55) Y V (fun k1=>by cases k1)<|fun k1=>Zf Y Y<|Yg (Dn (n:=0) Y Y)<|Zv (AL Y Y)<|Zm Y<|Aj (t:=59) Y V (fun k2=>?_) (fun k2=>?_);·
  exact absurd V k2
 refine Zf Y Y<|Yg (Dn (n:=180) Y Y)<|Zv (AL Y Y)<|Z0<|Zn [1,2,3,5,62] ?_;refine Zx<|Aq Y (fun k3=>?_) (fun k3=>?_);·
  exact absurd V k3
 refine AC<|Zx<|A0<|Zm Y<|Zm Y<|Zo Wh (AA (cs:=#[_,_,_,_,_,_,_]) F2 CN Y AW (BK V))<|Zc [_,_,_,_] Y call8 Y V (Pg qa hx.b.ok A1 1 A1 UE (hx.b.scan 1 A1 exQ) 0 Tg zg) ?_;rintro _ _ ⟨_,⟨E1,pg1,cg1,vw,rfl,rfl⟩,rfl⟩;have l8:1+((0:Nat):Int)<=c0.z.fr:=by
  have h9:=XK L0.ok.tookb (B:=0) (by rw [o9];simp);rw [U,X]at h9;simp at h9⊢;omega
 refine Zc [_,_] Y call7 Y rfl (u7 hx.b L0 UE (k:=0) (by rw [p9];decide) AW (a:=1) A1 vw (by have:=zy;omega) (by rw [U];decide) (n:=0) (fun b hb=>by rw [UK];decide) l8 Tp zp) ?_;rintro _ _ ⟨_,⟨b1,c1,rfl,L1,cO,hnn1,P7,rfl⟩,rfl⟩;obtain ⟨rfl,y1,j5,kv,qz,gy,hsz1⟩:=WP U o9 A1 P7;rw [<-cO.cp];have zl:c1.ns=1:=cO.ns.trans p9
 have qj:c1.z.cap=10:=cO.cap.trans X;have hnx1:c1.next<=11:=by omega
 refine A4 Y<|A0<|Zm Y<|Zm Y ?_;have ax:=PU L1.ok (x:=y1) (by rw [j5];simp) (by rw [gy,L1.pos];omega)
 rw [qz]at ax;refine Zc [_,_] Y call16 Y V (ax) ?_;rintro _ _ ⟨_,⟨z1,l1,s1,LD,hpc1,hzo1,rfl,rfl⟩,rfl⟩;obtain ⟨a1,e11,e12,e13,e14,MP⟩:=L1.at hx.b (x:=y1) (by rw [j5];simp);obtain rfl:a1=1:=by omega
 have hv1:z1.a.res.val=1:=by rw [LD];show y1.res.val=1;rw [(MP A1).1,kv];exact hx.e1
 have Y2:z1.a.until_=1:=by rw [LD];show c1.pos=1;rw [L1.pos];rfl
 refine Zm Y<|Zd Y V<|Zd Y V<|Ze (Al Ks #[_,_,_,_,_,_,_,_,_,_,_,_,_,_,_])<|AG fun ba=>Xe (Xw Hx z1.A99)<|AN Y<|Zn [1,2,3,5,9,10,11] ?_;refine Zx<|A0<|Zm Y<|Zm Y<|BV (Ad (j:=1) GO F1 Y Y A1)<|CG (Gd Wo (r9)) (AA (cs:=#[_,_]) HP F1 Y A1 af) V rfl<|Zc [_,_] Y call14 Y V (Xh hx.b L1 O Z) ?_;rintro _ _ ⟨_,⟨c2,q22,MJ,zs2,tv2,sT2,rfl,L2,W,pz,rfl⟩,rfl⟩;have m:r2.p=c1.pos+1:=(L1.next hx.b O).2
 rw [L1.pos]at m;have MB:zs2=[y1.key]:=sQ W j5 (by unfold VB;rw [kv];exact x9) (by rw [gy,m];omega)
 rw [MB,qz]at pz;obtain ⟨gt,capt,sM,zt,rfl,rfl,hszt,Rl⟩:=Yt pz (n:=1) rfl AW;have wo:sM[0]?=some (.string (str (CJ exQ))):=Rl 0 AW
 rw [<-W.cp];obtain ⟨y2,y9,sw,yt,ic⟩:=kD W j5 (by rw [gy];omega) (by rw [kv];decide);rw [kv]at sw;rw [qz]at yt;rw [gy]at ic;have zq:c2.ns=1:=W.ns.trans zl
 have ql:c2.z.cap=10:=W.cap.trans qj;have hnx2:c2.next<=12:=by rw [W.next];omega
 refine Zm Y<|Zd Y V<|Zd Y V<|Za Y<|A4 Y<|A0<|Zm Y<|Zm Y ?_;have bn:=PU L2.ok (x:=y2) (by rw [y9];simp) (by rw [ic,L2.pos];omega)
 rw [yt]at bn;refine Zc [_,_] Y call16 Y V (bn) ?_;rintro _ _ ⟨_,⟨z2,l2,s2,sJ,Gl,hzo2,rfl,rfl⟩,rfl⟩;obtain ⟨a2,e21,e22,e23,MS,e25⟩:=L2.at hx.b (x:=y2) (by rw [y9];simp);obtain rfl:a2=1:=by omega
 obtain ⟨e241,sO,o8,_⟩:=MS A1;have hv2:z2.a.res.val=2:=by rw [sJ];show y2.res.val=2;rw [sO,sw];exact hx.e2
 have Ty:z2.a.since=2:=by
  rw [sJ];show y2.since=2
  rw [sw]at o8;obtain ⟨⟨a1,a2⟩,_,a4⟩:=o8;rcases (by omega:y2.since=2\/y2.since<=1)with h9|h9
  · exact h9
  · have ht:=a4 1 r2 A1 AW O
    rw [LB]at ht;cases ht
 have T9:z2.a.recs.length=1:=by
  rw [sJ];show l2.length=1
  have h9:=congrArg List.length Gl;rw [B8,B8,OU (by rw [L2.pos,ic];omega),L2.pos,ic]at h9;omega
 refine Zm Y<|Zd Y V<|Zd Y V<|Ze (Al Ks #[_,_,_,_,_,_,_,_,_,_,_,_,_,_,_])<|AG fun bb=>Xe (Xw Hx z2.A99)<|AN Y<|Zn [1,2,3,5,9,10,11,12,13,14,15] ?_;refine Zx<|A0<|Zm Y<|Zm Y<|BV (Ad (j:=1) GO F1 Y Y A1)<|CG (Gd Wo (r9)) (AA (cs:=#[_,_]) HP F1 Y A1 af) rfl rfl<|Xr [_,_] Y call14 Y rfl (aJ L2.ok.tookb Z (L1.next hx.b O).1 (by rw [m,L2.pos];omega))<|Zm Y<|Zd Y rfl<|Zd Y rfl<|Za Y<|A4 Y<|A0<|Zm Y<|Zc [_,_] Y call19 Y rfl (ts L2.ok 1 AW) ?_;rintro _ _ ⟨_,⟨rfl,c3,Qd,wh,⟨g,p8,hw3⟩,FT,gq,ek,J,rfl⟩,rfl⟩;rw [<-wh];have L3:GG l 1 c3:=⟨Qd,FT,by omega,by rw [hw3];exact OT l 1,fun x G=>by rw [g]at G;cases G⟩
 rw [zq]at ek;rw [ql]at J;replace gq:c3.next<=13:=by rw [gq];omega
 refine A5<|A0<|Zm Y<|Zc [_] Y call15 Y V (zY L3.ok.tookb) ?_;rintro _ _ ⟨_,⟨zs3,sk3,pq,_,HZ,rfl⟩,rfl⟩;rw [g]at pq;have MC:zs3=[]:=pq.eq_nil
 subst MC;obtain ⟨pk3,ck3,rfl⟩:=jZ HZ (n:=0) rfl;refine Zv (AY DA Y)<|Zv (CR (n:=0) Y Y)<|Zm Y<|Aj (t:=102) Y V (fun k4=>?_) (fun k4=>?_);·
  refine Zf Y Y<|Xr [_] Y call20 Y V (z7 c3) ?_;rw [FT];refine Yg (CR (n:=1) Y Y)<|Zv (AV Y Y)<|AN Y<|Zn [1,2,3,5,9,10,11,12,13,14,15,17,18] ?_;refine Zx<|A0<|Zm Y<|Zm Y<|Zo Wh (AA (cs:=#[_,_,_,_,_,_,_]) F2 CN Y AW (BK V))<|Zc [_,_,_,_] Y call8 Y V (Pg qa hx.b.ok A1 2 A1 UE (hx.b.scan 2 A1 exQ) 0 Tg zg) ?_;rintro _ _ ⟨_,⟨E2,pg2,cg2,vz,rfl,rfl⟩,rfl⟩;have l9:1+((0:Nat):Int)<=c3.z.fr:=by
   have h9:=XK L3.ok.tookb (B:=0) (by rw [p8];simp);rw [g,J]at h9;simp at h9⊢;omega
  refine Zc [_,_] Y call7 Y rfl (u7 hx.b L3 UE (k:=0) (by rw [ek];decide) AW (a:=2) A1 vz (by have:=gq;omega) (by rw [g];decide) (n:=0) (fun b hb=>by rw [UK];decide) l9 Tp zp) ?_;rintro _ _ ⟨_,⟨b4,c4,rfl,L4,d9,hnn4,Pn,rfl⟩,rfl⟩;obtain ⟨rfl,y4,qw,Gw,zf,j3,LA⟩:=WP g p8 A1 Pn;rw [<-d9.cp];have zu:c4.ns=1:=d9.ns.trans ek
  have qo:c4.z.cap=10:=d9.cap.trans J;have hnx4:c4.next<=14:=by omega
  refine A4 Y<|A0<|Zm Y<|Zm Y ?_;have wz:=nQ L4.ok (x:=y4) (by rw [qw];simp) (by rw [j3,L4.pos];omega)
  rw [zf]at wz;refine Xr [_,_] Y call16 Y V (wz)<|Zm Y<|Zd Y V<|Zd Y V<|Ze (Al Ks #[_,_,_,_,_,_,_,_,_,_,_,_,_,_,_])<|AG fun bc=>Xe (Xw Hx #[I4 0,I4 0,I4 0,I4 0,I4 0,I4 0,I4 0,.slice none 0 0,I4 0,.bool false,I4 0,I4 0,I4 0,.slice none 0 0,.slice none 0 0])<|AN Y<|Zn [1,3,5,9,10,11,12,13,14,15,17,18,19,21] ?_;refine Zx<|A0<|Zm Y<|Zm Y<|BV (Ad (j:=1) GO F1 Y Y A1)<|CG (Gd Wo (r9)) (AA (cs:=#[_,_]) HP F1 Y A1 af) V rfl<|Zc [_,_] Y call14 Y V (Xh hx.b L4 O Z) ?_;rintro _ _ ⟨_,⟨c5,q52,MK,zs5,tv5,sT5,rfl,L5,I,q9,rfl⟩,rfl⟩;have m:r2.p=c4.pos+1:=(L4.next hx.b O).2
  rw [L4.pos]at m;have ME:zs5=[]:=wm I fun x G=>by rw [qw]at G;rw [C1.1 G,j3];omega
  rw [ME]at q9;obtain ⟨pk5,ck5,rfl⟩:=jZ q9 (n:=0) rfl;rw [<-I.cp];obtain ⟨y5,qx,Hf,zi,qb⟩:=kD I qw (by rw [j3];omega) (by rw [Gw];decide);rw [Gw]at Hf;rw [zf]at zi;rw [j3]at qb;have pg:c5.ns=1:=I.ns.trans zu
  have Qe:c5.z.cap=10:=I.cap.trans qo;have hnx5:c5.next<=15:=by rw [I.next];omega
  refine Zm Y<|Zd Y V<|Zd Y V<|Za Y<|A4 Y<|A0<|Zm Y<|Zm Y ?_;have cu:=PU L5.ok (x:=y5) (by rw [qx];simp) (by rw [qb,L5.pos];omega)
  rw [zi]at cu;refine Zc [_,_] Y call16 Y V (cu) ?_;rintro _ _ ⟨_,⟨z5,l5,s5,Mx,hpc5,hzo5,rfl,rfl⟩,rfl⟩;obtain ⟨a5,e51,e52,e53,e54,P5⟩:=L5.at hx.b (x:=y5) (by rw [qx];simp);obtain rfl:a5=2:=by omega
  have hv5:z5.a.res.val=2:=by rw [Mx];show y5.res.val=2;rw [(P5 A1).1,Hf];exact hx.e2
  have w9:z5.a.base=2:=by rw [Mx];show y5.base=2;rw [qb];rfl
  refine Zm Y<|Zd Y V<|Zd Y V<|Ze (Al Ks #[_,_,_,_,_,_,_,_,_,_,_,_,_,_,_])<|AG fun bd=>Xe (Xw Hx z5.A99)<|AN Y<|Zn [3,5,9,10,11,12,13,14,15,17,18,19,21,22,24,25] ?_;refine Zx<|A0<|Zm Y<|Zm Y<|Ae (t:=133) Y V (fun g1=>?_) (fun g1=>?_);·
   refine Zf Y Y<|Zv (AV Y Y)<|Zm Y<|Ae (t:=136) Y V (fun g2=>?_) (fun g2=>?_);·
    refine Yf 7 HF V rfl B2 Y<|Yg (Ar (off:=1) CH V rfl A6 Y)<|Yl AF Y<|Yg (CK Y Y)<|Zv (AV Y Y)<|Zm Y<|Aj (t:=142) Y V (fun g3=>?_) (fun g3=>?_);·
     refine Yf 11 HF V rfl A6 Y<|Yl AF Y<|Yg (CK Y Y)<|Zv (AV Y Y)<|Zm Y<|Aj (t:=147) Y V (fun g4=>?_) (fun g4=>?_);·
      refine Zf Y Y<|Yg (CR (n:=0) Y Y)<|Zv (AV Y Y)<|Zm Y<|Aj (t:=151) Y V (fun g5=>?_) (fun g5=>?_);·
       refine Zf Y Y<|Yg (AY DA Y)<|Yg (CR (n:=1) Y Y)<|Zv (AV Y Y)<|Zm Y<|Aj (t:=156) Y V (fun g6=>?_) (fun g6=>?_);·
        refine Zf Y Y<|Gx Y (BU (j:=0) DA Fo Y Y e5) rfl rfl ?_;refine Yl HK Y (hv:=by exact wo)<|Zf Y Y<|Yg (Mw Y Y)<|Zv (AV Y Y)<|AN Y<|Zn [5,14,15,17,18,19,21,22,24,25,26] ?_;refine Zx<|A0<|Zm Y<|Zm Y<|Ae (t:=164) Y V (fun g8=>?_) (fun g8=>?_);·
         refine Yf 7 HF V rfl B2 Y<|Yg (Ar (off:=1) CH V rfl A6 Y)<|Yl AF Y<|Yg (CK Y Y)<|Zv (AV Y Y)<|Zm Y<|Aj (t:=170) Y V (fun g9=>?_) (fun g9=>?_);·
          refine Yf 10 HF V rfl A6 Y<|Yl AF Y<|Yg (CK Y Y)<|Zv (AV Y Y)<|Zm Y<|Aj (t:=175) Y V (fun ve=>?_) (fun ve=>?_);·
           refine Yf 14 HF V rfl PA Y<|Yl ZS Y<|Yg (AY GO Y)<|Yg (CR (n:=1) Y Y)<|Zv (AV Y Y)<|Zm Y<|Aj (t:=181) Y V (fun vo=>?_) (fun vo=>?_);·
            refine Zf Y Y<|Yg (CR (n:=180) Y Y)<|Zv (AV Y Y)<|AN Y<|Zn [5,18,19,21,22,24,25,26,27] ?_;refine Zx<|A0<|Zm Y<|Zm Y<|Aj (t:=186) Y V (fun m1=>?_) (fun m1=>?_);·
             refine Zf Y Y<|Zv (AV Y Y)<|Zm Y<|Aj (t:=189) Y V (fun m2=>?_) (fun m2=>?_);·
              refine Zf Y Y<|Zv (AV Y Y)<|Zm Y<|Aj (t:=192) Y V (fun m3=>?_) (fun m3=>?_);·
               refine Zf Y Y<|Zv (AV Y Y)<|Zm Y<|Ae (t:=195) Y V (fun m4=>?_) (fun m4=>?_);·
                refine Zf Y Y<|Yg (Br Y)<|Zv (AV Y Y)<|Zm Y<|Ae (t:=199) Y V (fun m5=>?_) (fun m5=>?_);·
                 refine Zf Y Y<|Yg (AY DA Y)<|Yg (CR (n:=0) Y Y)<|Zv (AV Y Y)<|Zm Y<|Aj (t:=204) Y V (fun m6=>?_) (fun m6=>?_);·
                  refine Zf Y Y<|Zv (AV Y Y)<|Zm Y<|Ae (t:=207) Y V (fun m7=>?_) (fun m7=>?_);·
                   refine Yf 7 HF V rfl B2 Y<|Yg (Ar (off:=1) CH V rfl A6 Y)<|Yl AF Y<|Yg (CK Y Y)<|Zv (AV Y Y)<|Zm Y<|Aj (t:=213) Y V (fun m8=>?_) (fun m8=>?_);·
                    refine Yf 12 HF V rfl A6 Y<|Yl AF Y<|Yg (CK Y Y)<|Zv (AV Y Y)<|Zm Y<|Aj (t:=218) Y V (fun m9=>?_) (fun m9=>?_);·
                     refine Zf Y Y<|Xr [_,_] Y call21 Y rfl (wk (k:=0) L5.ok.tookb (by rw [pg];decide)) ?_;rw [xK L5.ok.tookb pg qx (fun e he=>LA e (I.PL e he))];refine Yg (CR (n:=1) Y Y)<|Zv (AV Y Y)<|AN Y<|Zn [0] ?_;refine Zx<|AJ<|AO V results4 Y (by exact ⟨V,V⟩)
                    exact absurd w9 m9
                   exact absurd hv5 m8
                  cases m7
                 exact absurd V m6
                cases m5
               cases m4
              exact absurd V m3
             exact absurd V m2
            exact absurd V m1
           exact absurd T9 vo
          exact absurd Ty ve
         exact absurd hv2 g9
        cases g8
       exact absurd V g6
      exact absurd V g5
     exact absurd Y2 g4
    exact absurd hv1 g3
   cases g2
  cases g1
 exact absurd V k4
def Mg(z:Int):Nat:=if z<0 then(-(z+1)).toNat else z.toNat
theorem kV{z:Int}(h:z<0):(-(z+1)).toNat=Mg z:=(Ax h).symm
theorem kU{z:Int}(h:¬z<0):z.toNat=Mg z:=(An h).symm
def uf(had:Bool)(m:Nat):Bool:=!had||decide (0<m%4)
def yv(m:Nat):V3:=⟨((m/4%10:Nat):Int),((1+m/40%9:Nat):Int),((m/400%40:Nat):Int) -20⟩
def kR(gr:AX×Bool)(n m:Nat):Chg:=⟨((n%3:Nat):Int),((1+n/3%9:Nat):Int),gr.2,gr.1.v,uf gr.2 m,if uf gr.2 m then yv m else V3.zero⟩
def RG(rs:List AX)(n m:Nat):Chg:=kR (Fs rs ((n%3:Nat):Int) ((1+n/3%9:Nat):Int)) n m
def Sa(c y:Chg):Bool:=decide (y.t=c.t/\y.k=c.k)
def FQ(cs:List Chg)(c:Chg)(k n:Nat):Prop:=cs.any (Sa c)=true\/(c.had=true/\c.has=true/\c.o=c.n)\/(0<k/\n%5=0)
instance(cs:List Chg)(c:Chg)(k n:Nat):Decidable (FQ cs c k n):=inferInstanceAs(Decidable (_\/_))
def Md(c y:Chg):Prop:=c.t<y.t\/y.t=c.t/\c.k<y.k
instance(c y:Chg):Decidable (Md c y):=inferInstanceAs(Decidable (_\/_))
def QN(cs:List Chg)(c:Chg):Nat->Nat
 |0=>0
 |j+1=>match cs[j]?with
  |some y=>if Md c y then QN cs c j else j+1
  |none=>j+1
variable{j:Nat}
theorem ZF{c y:Chg}(h0:0<j)(hy:cs[j -1]?=some y)(h:Md c y):QN cs c j=QN cs c (j -1):=by
 obtain ⟨k,rfl⟩:∃k,j=k+1:=⟨j -1,by omega⟩;rw [R0]at hy⊢;rw [QN,hy];exact Ax h
theorem ZE{c y:Chg}(h0:0<j)(hy:cs[j -1]?=some y)(h:¬Md c y):QN cs c j=j:=by
 obtain ⟨k,rfl⟩:∃k,j=k+1:=⟨j -1,by omega⟩;rw [R0]at hy;rw [QN,hy];exact An h
theorem rf{c:Chg}(h0:¬0<j):QN cs c j=j:=by
 obtain rfl:j=0:=by omega
 rfl
noncomputable def VO(rs:List AX)(z:List Int)(k:Nat)(cs:List Chg):List Chg:=
 if FQ cs (RG rs (Mg (z.getD (2*k) 0)) (Mg (z.getD (2*k+1) 0))) k (Mg (z.getD (2*k) 0))then cs
 else cs.take (QN cs (RG rs (Mg (z.getD (2*k) 0)) (Mg (z.getD (2*k+1) 0))) cs.length)++[RG rs (Mg (z.getD (2*k) 0)) (Mg (z.getD (2*k+1) 0))]++cs.drop (QN cs (RG rs (Mg (z.getD (2*k) 0)) (Mg (z.getD (2*k+1) 0))) cs.length)
noncomputable def GM(rs:List AX)(z:List Int):Nat->List Chg
 |0=>[]
 |k+1=>VO rs z k (GM rs z k)
variable{z:List Int}
theorem Rs{n:Int}(h:z[i]?=some n):z.getD i 0=n:=by rw [N6,h];rfl
theorem Ka{m:Nat}{za zb:Int}{c:Chg}(g:cs=GM rs z k)(B:z[2*k]?=some za)(G:z[2*k+1]?=some zb)(hn:n=Mg za)(I:m=Mg zb)(hc:c=RG rs n m)(h:FQ cs c k n):cs=GM rs z (k+1):=by
 subst hn I hc;show _=VO rs z k (GM rs z k)
 unfold VO;rw [Rs B,Rs G,<-g,Ax h]
theorem vW{m:Nat}{za zb:Int}{c:Chg}(g:cs=GM rs z k)(B:z[2*k]?=some za)(G:z[2*k+1]?=some zb)(hn:n=Mg za)(J:m=Mg zb)(hc:c=RG rs n m)(h:¬FQ cs c k n)(I:QN cs c cs.length=j):cs.take j++[c]++cs.drop j=GM rs z (k+1):=by
 subst hn J hc I;show _=VO rs z k (GM rs z k)
 unfold VO;rw [Rs B,Rs G,<-g,An h]
def Yr(L:List (List Chg)):List AX:=L.foldl DU []
theorem Yq(l:List BP):Yr (l.map BP.cs)=Bb l:=by unfold Yr Bb;rw [List.foldl_map]
noncomputable instance(rs:List AX)(p q:Int)(cs:List Chg):Decidable (Kh rs p q cs):=Classical.propDecidable _
noncomputable def N9(L:List (List Chg))(z:List Int):List (List Chg):=
 if Kh (Yr L) (L.length:Int) ((L.length:Int)+1) (GM (Yr L) z 3)then L++[GM (Yr L) z 3]else L
noncomputable def Tk(xs:List (List Int)):List (List Chg):=xs.foldl N9 []
variable{xs:List (List Int)}
theorem WC(hz:xs[i]?=some z):Tk (xs.take (i+1))=N9 (Tk (xs.take i)) z:=by
 unfold Tk;rw [RK,hz,Wa];rfl
theorem y8{g:List BP}(hz:xs[i]?=some z)(m:g.map BP.cs=Tk (xs.take i))(hc:r.cs=GM (Bb g) z 3)(h:Kh (Bb g) (g.length:Int) ((g.length:Int)+1) r.cs):(g++[r]).map BP.cs=Tk (xs.take (i+1)):=by
 rw [WC hz,<-m];unfold N9;rw [Yq,B8,<-hc,Ax h,C2];rfl
theorem tp{g:List BP}(hz:xs[i]?=some z)(m:g.map BP.cs=Tk (xs.take i))(hc:cs=GM (Bb g) z 3)(h:¬Kh (Bb g) (g.length:Int) ((g.length:Int)+1) cs):g.map BP.cs=Tk (xs.take (i+1)):=by
 rw [WC hz,<-m];unfold N9;rw [Yq,B8,<-hc,An h]
theorem vA{p:Chg->Bool}{x:Chg}(hx:cs[i]?=some x):(cs.take (i+1)).any p=((cs.take i).any p||p x):=by
 rw [RK,hx,List.any_append];simp
theorem YF{p:Chg->Bool}{x:Chg}{g:Bool}(hx:cs[i]?=some x)(m:b=(cs.take i).any p)(h:g=(b||p x)):g=(cs.take (i+1)).any p:=by
 rw [vA hx,<-m,h]
set_option maxHeartbeats 4000000 in
theorem xY(hX:Wm M v xs)(hx:xs.length<=1000):BZ prog 5 #[v] [M] (fun r H'=>∃(l:List BP) (s:List A9),FC l/\l.length<=xs.length/\l.map BP.cs=Tk xs/\EE s r l/\H'=[s,M]):=by
 have MJ:=mL;obtain ⟨px,Hf,rfl,P5,zt⟩:=id hX;refine Se func5 ntmps5 [0] ?_;intro u R;refine A0<|A4 Y<|A0<|A4 Y<|A0<|Zc [] Y call22 Y V (td) ?_;rintro _ _ ⟨_,⟨sp,rfl,rfl⟩,rfl⟩;refine A4 Y<|Zq<|A0<|A4 Y<|AQ<|BX<|BX<|BX<|Zb [3,5,0,4] ?_;refine BA (e0:=[(3,_),(5,_)]) (fun m e H=>∃(i:Nat) (B:List BP) (w wo:A3) (sv so MM:List A9),m=xs.length -i/\(i<=xs.length/\FC B/\B.length<=i/\Bd 5 72 w (Bb B).length (Af (Bb B)) sv/\Bd 2 50 wo B.length (Du B) so/\(∀r∈B,Cf MM (.slice r.q r.cs.length r.cap) r.cs)/\B.map BP.cs=Tk (xs.take i))/\e=[(3,wo),(5,I4 (i:Int))]/\H=[[(sp,.cells #[w,I4 (B.length:Int)] 76 (0,0))],sv,so,MM]) (by exact ⟨0,[],.slice none 0 0,.slice none 0 0,[],[],[],V,⟨C5 _,(by intro i r h;cases h),D2 _,Bf 5 _,Bf 2 _,by simp,V⟩,V,V⟩) Wp ?_;rintro _ _ _ ⟨i,B,w,wo,sv,so,MM,rfl,⟨hi,cu,MS,l5,kv,pg,p9⟩,rfl,rfl⟩;obtain ⟨qw,qz,rfl⟩:=l5.form;obtain ⟨qo,Gw,rfl⟩:=kv.form;obtain ⟨yt,Gl⟩:=cu.all;have zi:=QD l5 A1
 refine Zq<|A0<|Zm Y<|Zm Y<|Zv (AY eV Y)<|Zv (Au Y Y)<|A5<|Aq Y (fun vz=>?_) (fun vz=>?_);·
  obtain ⟨z,ql⟩:∃z,xs[i]?=some z:=⟨_,B7 vz⟩;obtain ⟨h6,p8,g,off,cur,T,zz,rfl,hm,sM⟩:=zt i z ql;refine AC<|Zx<|Zq<|AQ<|A0<|A4 Y<|Zq<|A0<|A4 Y<|AQ<|BX<|Zb [6,7,0,3,4,5] ?_;refine BA (e0:=[(6,_),(7,_)]) (fun m e H=>∃(k:Nat) (w2:A3) (cs:List Chg) (sl:List A9),m=3 -k/\(k<=3/\cs.length<=k/\Bd 10 64 w2 cs.length (Cj cs) sl/\cs=GM (Bb B) z k)/\e=[(6,w2),(7,I4 (k:Int))]/\H=[sl]) (by exact ⟨0,.slice none 0 0,[],[],V,⟨C5 _,D2 _,Bf 10 _,V⟩,V,V⟩) Wp ?_;rintro _ _ _ ⟨k,w2,cs,sl,rfl,⟨MC,Mx,G,af⟩,rfl,rfl⟩;obtain ⟨gw,cw,rfl⟩:=G.form;have MB:=Ew G
  refine Zq<|A0<|Zm Y<|Zv (Au (n:=3) Y Y)<|A5<|Aq Y (fun hk=>?_) (fun hk=>?_);·
   obtain ⟨za,X⟩:∃n,z[2*k]?=some n:=⟨_,B7 A1⟩;obtain ⟨zb,Z⟩:∃n,z[2*k+1]?=some n:=⟨_,B7 A1⟩;have MK:=p8 za (Dg X)
   have MP:=p8 zb (Dg Z);have zk:=sM _ _ X
   have zm:=sM _ _ Z;refine AC<|Zx<|Zq<|AQ<|A0<|Zm Y<|Zm Y<|Zm Y<|BV (F6 (m:=2) Y Y A1)<|BV (Ad eV sizeOf70 Y Y A1)<|BV (Cr i6 A6 Y Y A1)<|CG (cs:=[(g,.cells cur T zz)]) (by simp [hm]) (BO AF Y (by(rw [Mz];exact zk))) V rfl<|A4 Y<|Zb [8,0,3,4,5,6,7] ?_;refine DL (e0:=[(8,_)]) (H0:=[]) (fun e H=>∃(n:Nat),(n<=9223372036854775807/\n=Mg za)/\e=[(8,I4 (n:Int))]/\H=[]) Wp ?hx_3 ?hy_3
   case hx_3=>
    refine A0<|Zm Y<|Zv (Dw Y Y)<|A5<|Aq Y (fun zu=>?_) (fun zu=>?_);·
     refine Zg<|Zm Y<|Yi Y Y ?_;refine BV (jf Y (IntWalk.i64_in _ A1))<|AN Y<|Zn [8,0,3,4,5,6,7] ?_;refine BN (e':=[(8,_)]) (by exact ⟨(-(za+1)).toNat,⟨by omega,kV A1⟩,by rw [show(((-(za+1)).toNat:Nat):Int)=0 -(za+1) by omega],rfl⟩)
    refine AC<|Zn [8,0,3,4,5,6,7] ?_;refine BN (e':=[(8,_)]) (by exact ⟨za.toNat,⟨by omega,kU A1⟩,by rw [show((za.toNat:Nat):Int)=za by omega],rfl⟩)
   rintro _ _ ⟨n,⟨hn,gm⟩,rfl,rfl⟩;refine A0<|Zm Y<|Zm Y<|Zm Y<|BV (F6 (m:=2) Y Y A1)<|Ya (n:=1) Y Y ?_;refine BV (Ad eV sizeOf70 Y Y A1)<|BV (Cr i6 A6 Y Y A1)<|CG (cs:=[(g,.cells cur T zz)]) (by simp [hm]) (BO AF Y (by(rw [Mz];exact zm))) V rfl<|A4 Y<|Zb [9,0,3,4,5,6,7,8] ?_;refine DL (e0:=[(9,_)]) (H0:=[]) (fun e H=>∃(m:Nat),(m<=9223372036854775807/\m=Mg zb)/\e=[(9,I4 (m:Int))]/\H=[]) Wp ?hx_6 ?hy_6
   case hx_6=>
    refine A0<|Zm Y<|Zv (Dw Y Y)<|A5<|Aq Y (fun zy=>?_) (fun zy=>?_);·
     refine Zg<|Zm Y<|Yi Y Y ?_;refine BV (jf Y (IntWalk.i64_in _ A1))<|AN Y<|Zn [9,0,3,4,5,6,7,8] ?_;refine BN (e':=[(9,_)]) (by exact ⟨(-(zb+1)).toNat,⟨by omega,kV A1⟩,by rw [show(((-(zb+1)).toNat:Nat):Int)=0 -(zb+1) by omega],rfl⟩)
    refine AC<|Zn [9,0,3,4,5,6,7,8] ?_;refine BN (e':=[(9,_)]) (by exact ⟨zb.toNat,⟨by omega,kU A1⟩,by rw [show((zb.toNat:Nat):Int)=zb by omega],rfl⟩)
   rintro _ _ ⟨m,⟨ME,ek⟩,rfl,rfl⟩;refine A0<|Zm Y<|BV (FZ (n:=3) Y Y A1)<|Zm Y<|BV (KQ (n:=3) Y Y A1 A1)<|BV (FZ (n:=9) Y Y A1)<|Ya (m:=1) Y Y<|Zv (BL (vs:=[(0,_),(1,_)]) (cs:=#[_,_,_,_,_,_,_,_,_,_]) Y (AZ (pl:=#[(0,1),(1,1),(2,1),(3,3),(6,1),(7,3)]) MA C0 (fun _=>by kernel_rfl) V))<|Ze (Al MA #[_,_,_,_,_,_,_,_,_,_])<|AG fun cb=>Xe (BM C7 Y Y (by(simp [Value.oneCell',Value.cells];done)) Wu (by exact (rfl:_=(#[I4 ((n%3:Nat):Int),I4 ((1+n/3%9:Nat):Int),.bool false,I4 0,I4 0,I4 0,.bool false,I4 0,I4 0,I4 0]:AH))) Fc (by exact D2 _) (by exact BC _))<|A5<|A0<|Zm Y<|Zh 0 C0 rfl rfl A6 Y<|Zl AF Y<|Zh 1 C0 rfl rfl A6 Y<|Zl AF Y<|Xr [_,_,_] Y call23 Y rfl (rO sp qw qz (B.length:Int) ((n%3:Nat):Int) ((1+n/3%9:Nat):Int) (Bb B) sv zi A1 yt) ?_;obtain ⟨O,ve⟩:∃O,O=Fs (Bb B) ((n%3:Nat):Int) ((1+n/3%9:Nat):Int):=⟨_,rfl⟩;rw [<-ve];refine Zm Y<|Zd Y V<|Zd Y V<|Ze (Al F0 #[_,_,_,_,_])<|AG fun ob=>Xe (Xw B0 #[I4 O.1.t,I4 O.1.k,I4 O.1.v.a,I4 O.1.v.b,I4 O.1.v.c])<|AN Y<|Zn [0,3,4,5,6,7,8,9,10,11,12] ?_;refine Zx<|A0<|Zm Y<|Zh 2 C0 rfl rfl Cp Y<|Xe (Zs Cp Y Y rfl (hc:=by exact (rfl:_=(#[I4 ((n%3:Nat):Int),I4 ((1+n/3%9:Nat):Int),.bool O.2,I4 0,I4 0,I4 0,.bool false,I4 0,I4 0,I4 0]:AH))) (hi:=by(simp;done)))<|A5<|A0<|Zh 2 G0 rfl rfl DO Y<|Zo Wh (Pa #[_,_,_] HB DO Y)<|Zh 3 C0 rfl rfl DO Y<|Xe (BM DO Y Y HT Wu (by exact (rfl:_=(#[I4 ((n%3:Nat):Int),I4 ((1+n/3%9:Nat):Int),.bool O.2,I4 O.1.v.a,I4 O.1.v.b,I4 O.1.v.c,.bool false,I4 0,I4 0,I4 0]:AH))) Fc B1 (by exact BC _))<|A5<|Zb [12,0,3,4,5,6,7,8,9,10] ?_;refine DL (e0:=[(12,_)]) (H0:=[[(cb,.cells #[I4 ((n%3:Nat):Int),I4 ((1+n/3%9:Nat):Int),.bool O.2,I4 O.1.v.a,I4 O.1.v.b,I4 O.1.v.c,.bool false,I4 0,I4 0,I4 0] 64 (0,0))]]) (fun e H=>∃(hb:Bool),(hb=uf O.2 m)/\e=[]/\H=[[(cb,.cells #[I4 ((n%3:Nat):Int),I4 ((1+n/3%9:Nat):Int),.bool O.2,I4 O.1.v.a,I4 O.1.v.b,I4 O.1.v.c,.bool hb,I4 0,I4 0,I4 0] 64 (0,0))]]) Wp ?hx_9 ?hy_9
   case hx_9=>
    refine Zg<|Zm Y<|Zv (Br Y)<|Zm Y<|Ae (t:=77) Y V (fun hh=>?_) (fun hh=>?_);·
     refine A7 Y V<|A7 Y V<|A7 Y V<|Zv (AV Y Y)<|Zh 6 C0 V rfl Cp Y<|Xe (Zs Cp Y Y V (hi:=by(simp;done)))<|Z0<|Zn [0,3,4,5,6,7,8,9,10] ?_;refine BN (e':=[]) (H':=[[(cb,.cells #[_,_,_,_,_,_,_,_,_,_] 64 (0,0))]]) ?_;exact ⟨_,by unfold uf;(rw [hh];rfl),V,V⟩
    refine Zf Y Y<|Gx Y (FZ (n:=4) Y Y A1) V rfl ?_;refine Yg (DK (n:=0) Y Y)<|Zv (AL Y Y)<|Zh 6 C0 V rfl Cp Y<|Xe (Zs Cp Y Y V (hi:=by(simp;done)))<|Z0<|Zn [0,3,4,5,6,7,8,9,10] ?_;refine BN (e':=[]) (H':=[[(cb,.cells #[_,_,_,_,_,_,_,_,_,_] 64 (0,0))]]) ?_;exact ⟨_,by unfold uf;(rw [hh];rfl),V,V⟩
   rintro _ _ ⟨hb,sw,rfl,rfl⟩;refine Zb [9,0,3,4,5,6,7,8,10] ?_;refine DL (e0:=[(9,_)]) (H0:=[[(cb,.cells #[I4 ((n%3:Nat):Int),I4 ((1+n/3%9:Nat):Int),.bool O.2,I4 O.1.v.a,I4 O.1.v.b,I4 O.1.v.c,.bool hb,I4 0,I4 0,I4 0] 64 (0,0))]]) (fun e H=>∃(c:Chg),(c=kR O n m)/\e=[]/\H=[[(cb,.cells c.A96 64 (0,0))]]) Wp ?hx_10 ?hy_10
   case hx_10=>
    refine A0<|Zh 6 C0 V rfl Cp Y<|Zl E6 Y<|A5<|AU Y (fun pq=>?_) (fun pq=>?_);·
     refine Zg<|Zm Y<|BV (KQ (n:=4) Y Y A1 A1)<|BV (FZ (n:=10) Y Y A1)<|Zm Y<|BV (KQ (n:=40) Y Y A1 A1)<|BV (FZ (n:=9) Y Y A1)<|Ya (m:=1) Y Y<|Zm Y<|BV (KQ (n:=400) Y Y A1 A1)<|BV (FZ (n:=40) Y Y A1)<|BV (GN Y Y (IntWalk.i64_in _ A1))<|Zv (BL (vs:=[(0,_),(1,_),(2,_)]) (cs:=#[_,_,_]) Y (DI cy Hh A6 rfl))<|Zh 7 C0 rfl rfl DO Y<|Xe (BM DO Y Y (by(simp [Value.oneCell',Value.cells];done)) Wu As Fc (by exact D2 _) (by exact BC _))<|Z0<|Zn [0,3,4,5,6,7,8,10] ?_;refine BN (e':=[]) (H':=[[(cb,.cells #[_,_,_,_,_,_,_,_,_,_] 64 (0,0))]]) ?_;exact ⟨⟨_,_,_,O.1.v,_,⟨_,_,_⟩⟩,by unfold kR;(rw [<-sw,Ax pq];rfl),V,V⟩
    refine AC<|Zn [0,3,4,5,6,7,8,10] ?_;refine BN (e':=[]) (H':=[[(cb,.cells #[_,_,_,_,_,_,_,_,_,_] 64 (0,0))]]) ?_;exact ⟨⟨_,_,_,O.1.v,_,⟨_,_,_⟩⟩,by unfold kR;(rw [<-sw,pq];rfl),V,V⟩
   rintro _ _ ⟨c,sJ,rfl,rfl⟩;have d9:c=RG (Bb B) n m:=by rw [sJ,ve];rfl
   refine A0<|A4 Y<|Zq<|A0<|A4 Y<|AQ<|Zb [13,14,0,3,4,5,6,7,8,10] ?_;refine BA (e0:=[(13,_),(14,_)]) (fun m e H=>∃(j:Nat) (b:Bool),m=cs.length -j/\(j<=cs.length/\b=(cs.take j).any (Sa c))/\e=[(13,.bool b),(14,I4 (j:Int))]/\H=[]) (by exact ⟨0,false,V,⟨C5 _,V⟩,V,V⟩) Wp ?_;rintro _ _ _ ⟨j,b,rfl,⟨hj,I⟩,rfl,rfl⟩;refine Zq<|A0<|Zm Y<|Zm Y<|Zv (AY GF Y)<|Zv (Au Y Y)<|A5<|Aq Y (fun vo=>?_) (fun vo=>?_);·
    refine AC<|Zx<|Zq<|AQ ?_;obtain ⟨y,hy⟩:∃y,cs[j]?=some y:=⟨_,B7 vo⟩;obtain ⟨gl,qx,r9,zl,qb,qa,vw,ic⟩:=E9 G A1;injection qb with hv1 hv2 hv3
    subst hv1 qa;obtain ⟨l8,qj⟩:=vZ ic hy;refine Az (n:=22) (0::1::3::3::15::31::63::3::131::511::1023::2047::2047::8191::16383::32767::2047::67583::262143::524287::1048575::2097151::[]) 0 AE AE V<|A2 0 V (AP Y)<|A2 1 V (AP Y)<|Ch (t:=105) Y (fun ax=>?_) (fun ax=>?_);·
     rw [ax];refine AM 2 V<|AM 3 V<|AM 4 V<|AM 5 V<|AM 6 V<|AM 7 V<|AM 8 V<|AM 9 V<|AM 10 V<|AM 11 V<|AM 12 V<|AM 13 V<|AM 14 V<|AM 15 V<|AM 16 V<|AM 17 V<|AM 18 V<|AM 19 V<|A2 20 V (AV Y Y)<|A2 21 V (Aw Y)<|Ag<|Zn [0,3,4,5,6,7,8,10,13,14] ?_;refine A8<|Zx<|Zg<|Zm Y<|Ya (n:=1) Y Y<|AN Y<|Zn [13,14,0,3,4,5,6,7,8,10] ?_;refine Ab (e':=[(13,_),(14,_)]) (by exact ⟨j+1,_,V,⟨by omega,YF hy I (by unfold Sa;(simp_all;done))⟩,V,V⟩)
    rw [ax];refine B3 2 V (AP Y)<|B3 3 V (AP Y)<|B3 4 V (Ad GF C7 Y Y A1)<|B3 5 V (Ar (off:=0) C0 V rfl A6 Y)<|DQ 6 V Wh (BO AF Y (by simpa using l8))<|B3 7 V (AB (off:=0) C0 V rfl A6 Y)<|DQ 8 V Wh (BO AF Y As)<|B3 9 V (CK Y Y)<|B3 10 V (AP Y)<|D8 (t:=114) Y (fun ax=>?_) (fun ax=>?_);·
     rw [DE ax];refine B3 11 V (AP Y)<|B3 12 V (AP Y)<|B3 13 V (Ad GF C7 Y Y A1)<|B3 14 V (Ar (off:=1) C0 V rfl A6 Y)<|DQ 15 V Wh (BO AF Y (by simpa using qj))<|B3 16 V (AB (off:=1) C0 V rfl A6 Y)<|DQ 17 V Wh (BO AF Y As)<|B3 18 V (CK Y Y)<|B3 19 V (AV Y Y)<|A2 20 V (AL Y Y)<|A2 21 V (Aw Y)<|Ag<|Zn [0,3,4,5,6,7,8,10,13,14] ?_;refine A8<|Zx<|Zg<|Zm Y<|Ya (n:=1) Y Y<|AN Y<|Zn [13,14,0,3,4,5,6,7,8,10] ?_;refine Ab (e':=[(13,_),(14,_)]) (by exact ⟨j+1,_,V,⟨by omega,YF hy I (by unfold Sa;(simp_all;done))⟩,V,V⟩)
    rw [Cd ax];refine AM 11 V<|AM 12 V<|AM 13 V<|AM 14 V<|AM 15 V<|AM 16 V<|AM 17 V<|AM 18 V<|B3 19 V (AL Y Y)<|A2 20 V (AL Y Y)<|A2 21 V (Aw Y)<|Ag<|Zn [0,3,4,5,6,7,8,10,13,14] ?_;refine A8<|Zx<|Zg<|Zm Y<|Ya (n:=1) Y Y<|AN Y<|Zn [13,14,0,3,4,5,6,7,8,10] ?_;refine Ab (e':=[(13,_),(14,_)]) (by exact ⟨j+1,_,V,⟨by omega,YF hy I (by unfold Sa;(simp_all;done))⟩,V,V⟩)
   have ej:j=cs.length:=by omega
   subst ej;rw [GS]at I;refine Ay<|Zt<|Zt<|AR<|Zx<|Zb [8,13,0,3,4,5,6,7,10] ?_;refine DL (e0:=[(8,_),(13,_)]) (H0:=[]) (fun e H=>(¬FQ cs c k n)/\e=[]/\H=[]) Wp ?hx_15 ?hy_15
   case hx_15=>
    refine A0<|Zm Y<|Zm Y<|Ae (t:=126) Y V (fun U=>?_) (fun U=>?_);·
     refine A7 Y V<|A7 Y V<|A7 Y V<|A7 Y V<|A7 Y V<|A7 Y V<|A7 Y V<|A7 Y V<|A7 Y V<|A7 Y V<|A7 Y V<|A7 Y V<|A7 Y V<|Zv (AV Y Y)<|Zm Y<|A7 Y V<|A7 Y V<|A7 Y V<|A7 Y V<|A7 Y V<|A7 Y V<|A7 Y V<|Zv (AV Y Y)<|Z0<|Zn [0,3,4,5,6,7,10,149] ?_;refine Zx<|Co Y<|Ay<|Zt<|AR<|Zx<|Zg<|Zm Y<|Ya (n:=1) Y Y<|AN Y<|Zn [6,7,0,3,4,5] ?_;refine Ab (e':=[(6,_),(7,_)]) (by exact ⟨k+1,_,cs,sl,rfl,⟨by omega,by omega,G,Ka af X Z gm ek d9 (by first|exact J|(unfold FQ;rw [<-I];first|(simp_all;done)|(simp_all;omega)))⟩,rfl,rfl⟩)
    refine Yf 2 C0 V rfl Cp Y<|Yl E6 Y<|Zf Y Y<|Ae (t:=129) Y V (fun U=>?_) (fun U=>?_);·
     refine Yf 6 C0 V rfl Cp Y<|Yl E6 Y<|Yg (AV Y Y)<|Zf Y Y<|Ae (t:=133) Y V (fun U=>?_) (fun U=>?_);·
      refine Yf 3 C0 V rfl DO Y<|Db Y Wh (AA (cs:=#[_,_,_]) HB DO Y B1 As) V rfl<|Yf 7 C0 V rfl DO Y<|Db Y Wh (Pa #[_,_,_] HB DO Y) V rfl<|Yg (Ky AE Hh CM AF A6 Y Y) ?_;refine Yg (AV Y Y)<|Zv (AL Y Y)<|Zm Y<|Aj (t:=141) Y V (fun U=>?_) (fun U=>?_);·
       refine A7 Y V<|A7 Y V<|A7 Y V<|A7 Y V<|A7 Y V<|A7 Y V<|A7 Y V<|Zv (AV Y Y)<|Z0<|Zn [0,3,4,5,6,7,10,149] ?_;refine Zx<|Co Y<|Ay<|Zt<|AR<|Zx<|Zg<|Zm Y<|Ya (n:=1) Y Y<|AN Y<|Zn [6,7,0,3,4,5] ?_;refine Ab (e':=[(6,_),(7,_)]) (by exact ⟨k+1,_,cs,sl,rfl,⟨by omega,by omega,G,Ka af X Z gm ek d9 (by first|exact J|(unfold FQ;rw [<-I];first|(simp_all;done)|(simp_all;omega)))⟩,rfl,rfl⟩)
      refine Zf Y Y<|Yg (DK (n:=0) Y Y)<|Zf Y Y<|Aj (t:=144) Y V (fun U=>?_) (fun U=>?_);·
       refine Zf Y Y<|Gx Y (FZ (n:=5) Y Y A1) V rfl ?_;refine Yg (CR (n:=0) Y Y)<|Yg (AV Y Y)<|Zv (AL Y Y)<|Z0<|Zn [0,3,4,5,6,7,10,149] ?_;refine Zx<|Aq Y (fun gy=>?_) (fun gy=>?_);·
        have J:FQ cs c k n:=by unfold FQ;rw [<-I];(simp_all;done)
        refine Ay<|Zt<|AR<|Zx<|Zg<|Zm Y<|Ya (n:=1) Y Y<|AN Y<|Zn [6,7,0,3,4,5] ?_;refine Ab (e':=[(6,_),(7,_)]) (by exact ⟨k+1,_,cs,sl,rfl,⟨by omega,by omega,G,Ka af X Z gm ek d9 (by first|exact J|(unfold FQ;rw [<-I];first|(simp_all;done)|(simp_all;omega)))⟩,rfl,rfl⟩)
       have J:¬FQ cs c k n:=by unfold FQ;rw [<-I];(simp_all;done)
       refine AC<|Zn [0,3,4,5,6,7,10] ?_;refine BN (e':=[]) (by exact ⟨(by exact J),V,V⟩)
      refine A7 Y V<|A7 Y V<|A7 Y V<|Yg (AL Y Y)<|Zv (AL Y Y)<|Z0<|Zn [0,3,4,5,6,7,10,149] ?_;refine Zx<|D9 Y<|AC<|Zn [0,3,4,5,6,7,10] ?_;refine BN (e':=[]) (by exact ⟨(by(unfold FQ;rw [<-I];first|(simp_all;done)|(simp_all;omega))),rfl,rfl⟩)
     refine A7 Y V<|A7 Y V<|A7 Y V<|A7 Y V<|A7 Y V<|Yg (AL Y Y)<|Zv (AL Y Y)<|Zm Y<|Zf Y Y<|Yg (DK (n:=0) Y Y)<|Zf Y Y<|Aj (t:=144) Y V (fun U=>?_) (fun U=>?_);·
      refine Zf Y Y<|Gx Y (FZ (n:=5) Y Y A1) V rfl ?_;refine Yg (CR (n:=0) Y Y)<|Yg (AV Y Y)<|Zv (AL Y Y)<|Z0<|Zn [0,3,4,5,6,7,10,149] ?_;refine Zx<|Aq Y (fun gy=>?_) (fun gy=>?_);·
       have J:FQ cs c k n:=by unfold FQ;rw [<-I];(simp_all;done)
       refine Ay<|Zt<|AR<|Zx<|Zg<|Zm Y<|Ya (n:=1) Y Y<|AN Y<|Zn [6,7,0,3,4,5] ?_;refine Ab (e':=[(6,_),(7,_)]) (by exact ⟨k+1,_,cs,sl,rfl,⟨by omega,by omega,G,Ka af X Z gm ek d9 (by first|exact J|(unfold FQ;rw [<-I];first|(simp_all;done)|(simp_all;omega)))⟩,rfl,rfl⟩)
      have J:¬FQ cs c k n:=by unfold FQ;rw [<-I];(simp_all;done)
      refine AC<|Zn [0,3,4,5,6,7,10] ?_;refine BN (e':=[]) (by exact ⟨(by exact J),V,V⟩)
     refine A7 Y V<|A7 Y V<|A7 Y V<|Yg (AL Y Y)<|Zv (AL Y Y)<|Z0<|Zn [0,3,4,5,6,7,10,149] ?_;refine Zx<|D9 Y<|AC<|Zn [0,3,4,5,6,7,10] ?_;refine BN (e':=[]) (by exact ⟨(by(unfold FQ;rw [<-I];first|(simp_all;done)|(simp_all;omega))),rfl,rfl⟩)
    refine A7 Y V<|A7 Y V<|Yg (AL Y Y)<|Zf Y Y<|A7 Y V<|A7 Y V<|A7 Y V<|A7 Y V<|A7 Y V<|Yg (AL Y Y)<|Zv (AL Y Y)<|Zm Y<|Zf Y Y<|Yg (DK (n:=0) Y Y)<|Zf Y Y<|Aj (t:=144) Y V (fun U=>?_) (fun U=>?_);·
     refine Zf Y Y<|Gx Y (FZ (n:=5) Y Y A1) V rfl ?_;refine Yg (CR (n:=0) Y Y)<|Yg (AV Y Y)<|Zv (AL Y Y)<|Z0<|Zn [0,3,4,5,6,7,10,149] ?_;refine Zx<|Aq Y (fun gy=>?_) (fun gy=>?_);·
      have J:FQ cs c k n:=by unfold FQ;rw [<-I];(simp_all;done)
      refine Ay<|Zt<|AR<|Zx<|Zg<|Zm Y<|Ya (n:=1) Y Y<|AN Y<|Zn [6,7,0,3,4,5] ?_;refine Ab (e':=[(6,_),(7,_)]) (by exact ⟨k+1,_,cs,sl,rfl,⟨by omega,by omega,G,Ka af X Z gm ek d9 (by first|exact J|(unfold FQ;rw [<-I];first|(simp_all;done)|(simp_all;omega)))⟩,rfl,rfl⟩)
     have J:¬FQ cs c k n:=by unfold FQ;rw [<-I];(simp_all;done)
     refine AC<|Zn [0,3,4,5,6,7,10] ?_;refine BN (e':=[]) (by exact ⟨(by exact J),V,V⟩)
    refine A7 Y V<|A7 Y V<|A7 Y V<|Yg (AL Y Y)<|Zv (AL Y Y)<|Z0<|Zn [0,3,4,5,6,7,10,149] ?_;refine Zx<|D9 Y<|AC<|Zn [0,3,4,5,6,7,10] ?_;refine BN (e':=[]) (by exact ⟨(by(unfold FQ;rw [<-I];first|(simp_all;done)|(simp_all;omega))),rfl,rfl⟩)
   rintro _ _ ⟨J,rfl,rfl⟩;refine A0<|Zm Y<|Zv (AY GF Y)<|A4 Y<|Zb [15,0,3,4,5,6,7,10] ?_;refine DL (e0:=[(15,_)]) (H0:=[]) (fun e H=>∃(j:Nat),(j<=cs.length/\QN cs c cs.length=j)/\e=[(15,I4 (j:Int))]/\H=[]) Wp ?hx_27 ?hy_27
   case hx_27=>
    refine AQ<|Zb [15,0,3,4,5,6,7,10] ?_;refine BA (e0:=[(15,_)]) (fun m e H=>∃(j:Nat),m=0+j/\(j<=cs.length/\QN cs c j=QN cs c cs.length)/\e=[(15,I4 (j:Int))]/\H=[]) (by exact ⟨cs.length,V,⟨D2 _,V⟩,V,V⟩) Wp ?_;rintro _ _ _ ⟨j,rfl,⟨hj,W⟩,rfl,rfl⟩;refine Zq<|Zq<|Az (n:=35) (0::1::3::7::7::23::63::127::255::7::519::2047::4095::8191::8191::24575::65535::131071::262143::8191::532479::2097151::4194303::8388607::8388607::25165823::67108863::134217727::268435455::8388607::545259519::2147483647::4294967295::8589934591::17179869183::[]) 0 AE AE V<|A2 0 V (AP Y)<|A2 1 V (DK (n:=0) Y Y)<|A2 2 V (AP Y)<|D8 (t:=154) Y (fun j3=>?_) (fun j3=>?_);·
     rw [DE j3];obtain ⟨y,hy⟩:∃y,cs[j -1]?=some y:=⟨_,B7 A1⟩;obtain ⟨gl,qx,r9,zl,qb,qa,vw,ic⟩:=E9 G A1;injection qb with hv1 hv2 hv3
     subst hv1 qa;obtain ⟨l8,qj⟩:=vZ ic hy;refine B3 3 V (AP Y)<|B3 4 V (AP Y)<|B3 5 V (CQ (n:=1) Y Y A1 A1)<|B3 6 V (Ad GF C7 Y Y A1)<|B3 7 V (Ar (off:=0) C0 V rfl A6 Y)<|DQ 8 V Wh (BO AF Y (by simpa using l8))<|B3 9 V (AB (off:=0) C0 V rfl A6 Y)<|DQ 10 V Wh (BO AF Y As)<|B3 11 V (Et Y Y)<|B3 12 V (AP Y)<|D8 (t:=164) Y (fun bn=>?_) (fun bn=>?_);·
      rw [DE bn];refine AM 13 V<|AM 14 V<|AM 15 V<|AM 16 V<|AM 17 V<|AM 18 V<|AM 19 V<|AM 20 V<|AM 21 V<|AM 22 V<|AM 23 V<|AM 24 V<|AM 25 V<|AM 26 V<|AM 27 V<|AM 28 V<|AM 29 V<|AM 30 V<|AM 31 V<|AM 32 V<|B3 33 V (AV Y Y)<|A2 34 V (AV Y Y)<|Ag<|Zn [0,3,4,5,6,7,10,15,186] ?_;refine Zx<|Co Y<|AC<|Zx<|AQ<|Zg<|Zm Y<|Yb (n:=1) Y Y<|AN Y<|A8<|Zn [15,0,3,4,5,6,7,10] ?_;refine Ab (e':=[(15,_)]) (by exact ⟨j -1,V,⟨by omega,(ZF j3 hy (by unfold Md;omega)).symm.trans W⟩,V,V⟩)
     rw [Cd bn];refine B3 13 V (AP Y)<|B3 14 V (AP Y)<|B3 15 V (CQ (n:=1) Y Y A1 A1)<|B3 16 V (Ad GF C7 Y Y A1)<|B3 17 V (Ar (off:=0) C0 V rfl A6 Y)<|DQ 18 V Wh (BO AF Y (by simpa using l8))<|B3 19 V (AB (off:=0) C0 V rfl A6 Y)<|DQ 20 V Wh (BO AF Y As)<|B3 21 V (CK Y Y)<|B3 22 V (AP Y)<|D8 (t:=174) Y (fun bn=>?_) (fun bn=>?_);·
      rw [DE bn];refine B3 23 V (AP Y)<|B3 24 V (AP Y)<|B3 25 V (CQ (n:=1) Y Y A1 A1)<|B3 26 V (Ad GF C7 Y Y A1)<|B3 27 V (Ar (off:=1) C0 V rfl A6 Y)<|DQ 28 V Wh (BO AF Y (by simpa using qj))<|B3 29 V (AB (off:=1) C0 V rfl A6 Y)<|DQ 30 V Wh (BO AF Y As)<|B3 31 V (Et Y Y)<|B3 32 V (AV Y Y)<|B3 33 V (AL Y Y)<|A2 34 V (AV Y Y)<|Ag<|Zn [0,3,4,5,6,7,10,15,186] ?_;refine Zx<|Aq Y (fun zq=>?_) (fun zq=>?_);·
       refine AC<|Zx<|AQ<|Zg<|Zm Y<|Yb (n:=1) Y Y<|AN Y<|A8<|Zn [15,0,3,4,5,6,7,10] ?_;refine Ab (e':=[(15,_)]) (by exact ⟨j -1,V,⟨by omega,(ZF j3 hy (by unfold Md;omega)).symm.trans W⟩,V,V⟩)
      refine Ay<|Zt<|Zt<|AR<|Zn [15,0,3,4,5,6,7,10] ?_;refine BN (e':=[(15,_)]) (by exact ⟨j,⟨hj,W.symm.trans (by exact ZE A1 hy (by unfold Md;first|omega|(simp_all;omega)))⟩,rfl,rfl⟩)
     rw [Cd bn];refine AM 23 V<|AM 24 V<|AM 25 V<|AM 26 V<|AM 27 V<|AM 28 V<|AM 29 V<|AM 30 V<|AM 31 V<|B3 32 V (AL Y Y)<|B3 33 V (AL Y Y)<|A2 34 V (AV Y Y)<|Ag<|Zn [0,3,4,5,6,7,10,15,186] ?_;refine Zx<|D9 Y<|Ay<|Zt<|Zt<|AR<|Zn [15,0,3,4,5,6,7,10] ?_;refine BN (e':=[(15,_)]) (by exact ⟨j,⟨hj,W.symm.trans (by exact ZE A1 hy (by unfold Md;first|omega|(simp_all;omega)))⟩,rfl,rfl⟩)
    rw [Cd j3];refine AM 3 V<|AM 4 V<|AM 5 V<|AM 6 V<|AM 7 V<|AM 8 V<|AM 9 V<|AM 10 V<|AM 11 V<|AM 12 V<|AM 13 V<|AM 14 V<|AM 15 V<|AM 16 V<|AM 17 V<|AM 18 V<|AM 19 V<|AM 20 V<|AM 21 V<|AM 22 V<|AM 23 V<|AM 24 V<|AM 25 V<|AM 26 V<|AM 27 V<|AM 28 V<|AM 29 V<|AM 30 V<|AM 31 V<|AM 32 V<|AM 33 V<|A2 34 V (AL Y Y)<|Ag<|Zn [0,3,4,5,6,7,10,15,186] ?_;refine Zx<|D9 Y<|Ay<|Zt<|Zt<|AR<|Zn [15,0,3,4,5,6,7,10] ?_;refine BN (e':=[(15,_)]) (by exact ⟨j,⟨hj,W.symm.trans (by exact rf A1)⟩,V,V⟩)
   rintro _ _ ⟨j,⟨hj,FT⟩,rfl,rfl⟩;refine Az (n:=12) (0::0::0::7::0::16::0::0::192::496::1023::2047::[]) 1568 AE AE V<|A2 0 V (AP Y)<|A2 1 V (AP Y)<|A2 2 V (AP Y)<|A2 3 V (PE GF C7 Y Y Y A1)<|Fk 4 V Wh (Pa #[_,_,_,_,_,_,_,_,_,_] G2 C7 Y)<|A2 6 V (AP Y)<|A2 7 V (AP Y)<|A2 8 V (CE GF C7 Y Y A1)<|Yw 5 511 V (Ai (vs:=[_]) (cs:=[_,_,_,_,_,_,_,_,_,_]) GF C7 MA Y V rfl V rfl V)<|AG fun gb=>Yw 9 1023 V (BR (by_:=80) (sz:=10) GF (V:Tryz.prog.info? 64=some Tryz.t64) V rfl V rfl Y (IZ 10 64 gb 1 (Cj [c]) V AW) Y (KF G j (cs.length -j) _ A1) Wo Wo (by exact fun u hu=>Pj cs u (KB hu)) A1 A1) ?_;rintro _ _ ⟨P6,o8,rfl⟩;obtain ⟨LB,HZ,rfl⟩:=o8.form;refine Yw 10 2047 V (RQ (by_:=80) (sz:=10) GF (V:Tryz.prog.info? 64=some Tryz.t64) V rfl V rfl Y (KE G j _ hj) Y (jW o8) Wo Wo A1 A1 A1) ?_;rintro _ _ ⟨P7,o9,rfl⟩;have w9:=BS o9 (n':=(cs.take j++[c]++cs.drop j).length) (xs':=Cj (cs.take j++[c]++cs.drop j)) (by simp only [BW,CC,CD,Fl];omega) (by rw [J9,J9,V4,V5,D3])
   obtain ⟨LD,LA,rfl⟩:=o9.form;refine A2 11 V (Aw Y)<|Ag<|A8<|Zx<|Zg<|Zm Y<|Ya (n:=1) Y Y<|AN Y<|Zn [6,7,0,3,4,5] ?_;refine Ab (e':=[(6,_),(7,_)]) (by exact ⟨k+1,_,cs.take j++[c]++cs.drop j,_,V,⟨by omega,by simp only [BW,CC,CD,Fl];omega,w9,vW af X Z gm ek d9 J FT⟩,V,V⟩)
  have l9:cs=GM (Bb B) z 3:=by have e3:k=3:=A1;subst e3;exact af
  refine Ay<|Zt<|Zt<|AR<|Zx<|A0<|Zm Y<|Zp Y V<|Zh 1 J1 V rfl A6 Y<|Zl AF Y<|Ya (n:=1) Y Y<|Zm Y<|Zv (BL (vs:=[(0,_),(1,_)]) (cs:=#[_,_]) Y (AZ (pl:=#[(0,1),(1,1)]) S2 Ge (fun _=>by kernel_rfl) V))<|Ze (Al S2 #[_,_])<|AG fun rb=>Xe (BM F1 Y Y (by(simp [Value.oneCell',Value.cells];done)) Wu (by exact (rfl:_=(#[I4 ((B.length:Int)+1),.slice gw cs.length cw]:AH))) Fc (by exact D2 _) (by exact BC _))<|A5<|A0<|Zm Y<|Zo Wh (Pa #[_,_] HP F1 Y)<|Zc [_,_] Y call24 Y rfl (rP sp (B.length:Int) ((B.length:Int)+1) _ (Bb B) sv sl gw cw cs l5 (Qk G A1) yt Gl A1) ?_;rintro _ _ ⟨_,wz,rfl⟩;rcases wz with⟨j5,v2,zf,rfl,y5,rfl⟩|⟨j5,rfl,rfl⟩
  ·
   refine AN Y<|Zn [0,3,4,5,16,17] ?_;refine Zx<|A0<|Zm Y<|Zv (CR (n:=0) Y Y)<|A5<|Aq Y (fun he=>?_) (fun he=>?_);·
    have pz:FC (B++[⟨(B.length:Int)+1,gw,cw,cs⟩]):=cu.snoc j5 (by show cs.length<=3;omega);have q9:(((B++[(⟨(B.length:Int)+1,gw,cw,cs⟩:BP)]).length:Nat):Int)=(B.length:Int)+1:=by rw [BW,Fl];omega
    have y9:Bd 5 72 v2 (Bb (B++[⟨(B.length:Int)+1,gw,cw,cs⟩])).length (Af (Bb (B++[⟨(B.length:Int)+1,gw,cw,cs⟩]))) zf:=by rw [Gn];exact y5
    have sj:∀r∈B++[(⟨(B.length:Int)+1,gw,cw,cs⟩:BP)],Cf (MM++sl) (.slice r.q r.cs.length r.cap) r.cs:=by
     intro r hr;rcases Bm.1 hr with hr|hr
     · exact Jp (pg r hr) sl
     · rw [C1.1 hr];exact H8 (Qk G A1) MM
    refine CP (s1:=MM) (s2:=sl) Wo Wo ?_;refine Zg<|Zm Y<|Zo Wh (Pa #[_,_] HP F1 Y)<|Ze (Ai (vs:=[_]) (cs:=[_,_]) GO F1 S2 Y V rfl V rfl V)<|AG fun gq=>Ze (BR (by_:=32) (sz:=2) GO (V:Tryz.prog.info? 50=some Tryz.t50) V rfl V rfl Y (kv) Y (DN 2 gq 1 1 50 (0,0) [I4 ((B.length:Int)+1),.slice gw cs.length cw] V) Wo Wo GP A1 A1) ?_;rintro _ _ ⟨sO,wh,rfl⟩;have x9:=BS wh (n':=(B++[(⟨(B.length:Int)+1,gw,cw,cs⟩:BP)]).length) (xs':=Du (B++[⟨(B.length:Int)+1,gw,cw,cs⟩])) (by rw [BW,Fl]) (by rw [Kq];rfl)
    obtain ⟨gO,cO,rfl⟩:=wh.form;refine AN Y<|A8<|Zx<|Zg<|Zm Y<|Ya (n:=1) Y Y<|AN Y<|Zn [3,5,0,4] ?_;refine Ab (e':=[(3,_),(5,_)]) (by exact ⟨i+1,B++[⟨(B.length:Int)+1,gw,cw,cs⟩],_,_,zf,sO,MM++sl,rfl,⟨by omega,pz,by rw [BW,Fl];omega,y9,x9,sj,y8 ql p9 l9 j5⟩,rfl,by rw [q9]⟩)
   exact absurd V he
  refine AN Y<|Zn [0,3,4,5,16,17] ?_;refine Zx<|A0<|Zm Y<|Zv (CR (n:=0) Y Y)<|A5<|Aq Y (fun he=>by cases he)<|fun he=>AC<|A8<|Zx<|Zg<|Zm Y<|Ya (n:=1) Y Y<|AN Y<|Zn [3,5,0,4] ?_;refine Ab (e':=[(3,_),(5,_)]) (by exact ⟨i+1,B,_,_,sv,so,MM,V,⟨by omega,cu,by omega,l5,kv,pg,tp ql p9 l9 j5⟩,V,V⟩)
 refine Ay<|Zt<|Zt<|AR<|Zx<|Zq<|CP (s1:=so) (s2:=MM) Wo Wo ?_;refine Zg<|Zm Y<|A4 Y<|AJ<|AO rfl results5 Y (by exact ⟨B,_,cu,by omega,by rw [p9,J0 A1],KI kv A1 pg,rfl⟩)
end Go.Proofs.YtfhjaegddfehhabGreatDoor
