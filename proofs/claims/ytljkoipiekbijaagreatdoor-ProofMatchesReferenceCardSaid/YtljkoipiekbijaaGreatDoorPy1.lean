/- The reference of layer 10: Prove, Complete, Rows, Same, over what lies in memory. -/
import Derived.Test.YtljkoipiekbijaaGreatDoorRt3
set_option linter.unusedVariables false
set_option linter.unusedSimpArgs false
namespace Go.Proofs.YtljkoipiekbijaaGreatDoor
open Go.Proofs.Tryz
open Go Go.RowKit Gw
set_option maxRecDepth 100000
attribute [local irreducible] Gw.At Gw.Nx Gw.Ops
theorem kG(rp:Nat)(p:Int)(w:A3)(rs:List AV)(z:List AR)(m:BS 5 91 w rs.length (Aa rs) z)(hn:rs.length<=2000)(J:BP rs)(G:∀r∈rs,r.ok)(t c:Nat)(ht:t<=3)(hc:c<=3)(lo hi:Int)(E:lo<=hi):
 CJ prog 39 #[I5 rp,I4 (t:Int),I4 (c:Int),I4 lo,I4 hi] [[(rp,.cells #[w,I4 p] 138 (0,0))],z] (fun r H'=>∃K mem,r= .tuple #[K,I4 0]/\LQ mem K (EC rs t c lo hi)/\H'=[mem,[(rp,.cells #[w,I4 p] 138 (0,0))],z]):=by
 have af:=mL;refine E8 (dD rp p w rs z m hn J G t c ht hc lo hi E) V ?_;rintro r H' ⟨vr,vp,vt,I,sp,bn,mp,so,rfl,O,h2,U,W,rfl⟩;have X:=GX J (t:Int) c
 have bf:toT (BF rs (t:Int) c) c hi<=(BF rs (t:Int) c).length:=Nat.min_le_right _ _;have g:=Lg (BF rs (t:Int) c) (CE (BF rs (t:Int) c) c lo) (toT (BF rs (t:Int) c) c hi -CE (BF rs (t:Int) c) c lo)
 have ax:(((BF rs (t:Int) c).drop (CE (BF rs (t:Int) c) c lo)).take (toT (BF rs (t:Int) c) c hi -CE (BF rs (t:Int) c) c lo)).length<=2000:=by rw [CI,D4];omega
 refine ⟨_,⟨_,I++(sp++mp)++so,V,⟨vr,vp,vt,V,?_,?_,?_⟩,V⟩,by simp⟩;· exact (Ca O A0).mono (fun c h=>HE _ (HE _ h))
 · exact (VU (BJ h2 g.symm rfl) U (by rw [g];omega)).mono (fun c h=>HE _ (G2 _ h))
 · exact (Ev (BJ W (Fq rs).symm rfl) (by rw [Fq];omega)).mono (fun c h=>G2 _ h)
theorem Kt(r:AV)(c:Int)(hc:0<=c/\c<=3):BB prog 40 #[.agg r.Ax3,I4 c] [] (I4 (Bh r c)):=by
 obtain ⟨k,rfl⟩:∃k:Nat,c=(k:Int):=⟨c.toNat,by omega⟩;rw [LY r k A0];exact MS r k A0
variable{x:RP}{r:AV}
theorem qA{i:Nat}(m:x.rows[i]?=some r)(h:¬Ji x i r):¬Eb x:=fun g=>h (g.all i r m).1
variable{M:List AR}{v:A3}
set_option maxHeartbeats 1000000 in
theorem PD(hv:LQ M v x):BB prog 127 #[v] [M] (.bool (decide (Eb x))):=by
 have sj:=mL;obtain ⟨vr,vp,vt,rfl,hR,hP,hT⟩:=hv;obtain ⟨p,cap,e9,hl,hg⟩:=id hR;subst e9;refine Se func127 ntmps127 [0] ?_;intro u R;refine A2<|Ze (Bx #[_,_,_,_,_,_,_,_,_])<|AE fun pb=>AF Y<|A2<|Zh 6 Bm V rfl Cl Y<|Zl DQ Y ?_;refine Zv (AJ B0 Y)<|CT Y<|A2<|Zh 0 Bm V rfl A4 Y<|Zl A5 Y ?_;refine Zv (Dq Y Y)<|Zm Y<|AZ (t:=17) Y V (fun a1=>?_) (fun a1=>?_);focus
  refine Sk 21 V<|Z0<|Zn [1,3,38] ?_;refine Zx<|BV Y ?_
 rotate_left
 focus
  refine Yf 0 Bm V rfl A4 Y<|Yl A5 Y ?_;refine Yg (Fa Y Y)<|Sk 2 V ?_;refine AZ (t:=22) Y V (fun a2=>?_) (fun a2=>?_);focus
   refine Sk 16 V<|Z0<|Zn [1,3,38] ?_;refine Zx<|BV Y ?_
  rotate_left
  focus
   refine Yf 1 Bm V rfl A4 Y<|Yl A5 Y ?_;refine Yg (Dq Y Y)<|Sk 2 V ?_;refine AZ (t:=27) Y V (fun a3=>?_) (fun a3=>?_);focus
    refine Sk 11 V<|Z0<|Zn [1,3,38] ?_;refine Zx<|BV Y ?_
   rotate_left
   focus
    refine Yf 1 Bm V rfl A4 Y<|Yl A5 Y ?_;refine Yg (Fa Y Y)<|Sk 2 V ?_;refine AZ (t:=32) Y V (fun a3=>?_) (fun a3=>?_);focus
     refine Sk 6 V<|Z0<|Zn [1,3,38] ?_;refine Zx<|BV Y ?_
    rotate_left
    focus
     refine Yf 2 Bm V rfl A4 Y<|Yl A5 Y ?_;refine Yf 3 Bm V rfl A4 Y<|Yl A5 Y ?_;refine Yg (EE Y Y)<|H3 Y Y<|Z0<|Zn [1,3,38] ?_;refine Zx<|Ad Y (fun a4=>?_) (fun a4=>?_);rotate_left;focus
      refine B3<|Zq<|A2<|Zh 4 Bm V rfl A4 Y<|Zl A5 Y ?_;refine Zv (Dq Y Y)<|Zm Y<|AZ (t:=42) Y V (fun b1=>?_) (fun b1=>?_);focus
       refine Sk 25 V<|Z0<|Zn [1,3,67] ?_;refine Zx<|BV Y ?_
      rotate_left
      focus
       refine Yf 4 Bm V rfl A4 Y<|Yl A5 Y ?_;refine Yg (EE Y Y)<|Sk 2 V ?_;refine AZ (t:=47) Y V (fun b2=>?_) (fun b2=>?_);focus
        refine Sk 20 V<|Z0<|Zn [1,3,67] ?_;refine Zx<|BV Y ?_
       rotate_left
       focus
        refine Yf 5 Bm V rfl A4 Y<|Yl A5 Y ?_;refine Yg (Dq Y Y)<|Sk 2 V ?_;refine AZ (t:=52) Y V (fun b3=>?_) (fun b3=>?_);focus
         refine Sk 15 V<|Z0<|Zn [1,3,67] ?_;refine Zx<|BV Y ?_
        rotate_left
        focus
         refine Yf 5 Bm V rfl A4 Y<|Yl A5 Y ?_;refine Yf 4 Bm V rfl A4 Y<|Yl A5 Y ?_;refine Yg (EE Y Y)<|Sk 2 V ?_;refine AZ (t:=59) Y V (fun b4=>?_) (fun b4=>?_);focus
          refine Sk 8 V<|Z0<|Zn [1,3,67] ?_;refine Zx<|BV Y ?_
         rotate_left
         focus
          refine Zf Y Y<|Yf 4 Bm V rfl A4 Y<|Yl A5 Y ?_;refine Yf 5 Bm V rfl A4 Y<|Yl A5 Y ?_
          (refine ER Y (GI Y Y (IntWalk.i64_in _ ?_)) rfl rfl ?_;(focus (omega)))
          refine Yg (EE Y Y)<|H3 Y Y<|Z0<|Zn [1,3,67] ?_;refine Zx<|Ad Y (fun b5=>?_) (fun b5=>?_);rotate_left;focus
           refine B3<|C0 Y<|Zv (Bg (n:=0) Y Y)<|A6<|Ad Y (fun hz=>?_) (fun hz=>?_);·
            refine A2<|Zh 4 Bm V rfl A4 Y<|Zl A5 Y ?_;refine Zv (Bd Y Y)<|AM Y<|Zt<|AO V dq Y (by exact ⟨F4 ⟨fun g=>⟨by omega,by omega,by omega,by omega,by omega,fun _=>g,fun j r E=>by have:=(D3.1 E).1;omega,fun r E=>by have:=(D3.1 E).1;omega,fun r E=>by have:=(D3.1 E).1;omega⟩,fun g=>g.none hz⟩,V⟩)
           refine B3<|Zq<|A2<|AF Y<|AQ<|Zb [4,1,3] ?_;refine Av (e0:=[(4,_)]) (fun m e H=>∃(i:Nat),m=x.rows.length -i/\(i<=x.rows.length/\∀(j:Nat) (r:AV),j<i->x.rows[j]?=some r->Ji x j r/\(0<j->∀q,x.rows[j -1]?=some q->Nt x q r))/\e=[(4,I4 (i:Int))]/\H=[]) (by exact ⟨0,V,⟨CD _,by intro j r E;omega⟩,V,V⟩) Wp ?_;rintro _ _ _ ⟨i,rfl,⟨hi,K⟩,rfl,rfl⟩;refine Zq<|A2<|Sk 2 V<|Zv (Ak Y Y)<|A6<|Ad Y (fun o9=>?_) (fun o9=>?_);·
            obtain ⟨r,hr⟩:∃r,x.rows[i]?=some r:=⟨_,Bk o9⟩;obtain ⟨g1,oq,kz,T1,qb,rfl,pq,qw,lv⟩:=hg i r hr;refine B3<|Zq<|AQ<|A2<|Zh 6 Bm V rfl Cl Y<|Zl DQ Y ?_;refine Zm Y<|BN (A9 B0 AW Y Y Fl)<|Cj (cs:=[(g1,.cells kz T1 qb)]) (by simp [pq]) (A7 (cs:=r.Ax3) C5 AW Y A0 lv) rfl rfl ?_;refine Ze (Al DS #[_,_,_,_,_])<|AE fun rb=>Xe (Xw AW r.Ax3) ?_;refine A6<|A2<|Zo Wh (Pa #[_,_,_,_,_] C5 AW Y) ?_;refine Zh 1 Bm V rfl A4 Y<|Zl A5 Y ?_;refine Xr [_,_] Y Q2 Y V (Kt r x.cl A0) ?_;refine AN Y<|Zn [1,3,4,5,6] ?_;refine BT<|Zo Wh (Pa #[_,_,_,_,_] C5 AW Y) ?_;refine Xr [_] Y call176 Y V (MU r) ?_;refine CT Y<|Zb [7,1,3,4,5,6] ?_;refine C9 (e0:=[(7,_)]) (H0:=[]) (fun e H=>∃(b9:Bool),(b9=true↔¬Ji x i r)/\e=[(119,.bool b9)]/\H=[]) Wp ?hx_13 ?hy_13
            case hx_13=>
             refine Zg<|Zm Y<|Zv (Bp Y)<|Zm Y<|AZ (t:=91) Y V (fun c1=>?_) (fun c1=>?_);focus
              refine Sk 7 V ?_
             rotate_left
             focus
              refine Yf 0 F1 V rfl A4 Y<|Yl A5 Y ?_;refine Yf 0 Bm V rfl A4 Y<|Yl A5 Y ?_;refine Yg (ED Y Y)<|Sk 2 V ?_;refine AZ (t:=98) Y V (fun c2=>?_) (fun c2=>?_);rotate_left;focus
               refine Zf Y Y<|Yf 2 Bm V rfl A4 Y<|Yl A5 Y ?_;refine Yg (Dq Y Y)<|Zf Y Y ?_;refine AZ (t:=103) Y V (fun c3=>?_) (fun c3=>?_);focus
                refine Zf Y Y<|Yg (CW (n:=0) Y Y)<|Sk 3 V ?_;refine AZ (t:=108) Y V (fun c4=>?_) (fun c4=>?_);refine Sk 11 V<|Z0<|HC (by exact ⟨true,⟨fun _ h8=>by obtain ⟨bn,cu,cO,d9⟩:=h8;first|omega|contradiction,fun _=>rfl⟩,rfl,rfl⟩)
               rotate_left
               focus
                refine Sk 5 V ?_
               all_goals
                refine Zf Y Y<|Yf 3 Bm V rfl A4 Y<|Yl A5 Y ?_;refine Yg (EE Y Y)<|Zf Y Y ?_;refine AZ (t:=113) Y V (fun c5=>?_) (fun c5=>?_);·
                 refine Sk 2 V ?_
                 (refine ER Y (C8 (n:=1) Y Y ?_ ?_) rfl rfl ?_;(focus (first|omega|(simp;omega)));(focus (first|omega|(simp;omega))))
                 refine Yg (Ak Y Y)<|Sk 2 V<|Z0<|FF (e:=[(119,_)]) (h:=by exact ⟨_,⟨fun g h8=>by have h7:=I2 g;obtain ⟨bn,cu,cO,d9⟩:=h8;omega,fun g=>Cp (Z1 fun h7=>g ⟨by first|assumption|exact Fi.1 Xs,by omega,fun h=>by omega,fun h=>by omega⟩)⟩,rfl,rfl⟩)
                refine Sk 6 V<|Z0<|HC (by exact ⟨false,⟨fun h=>absurd h AH,fun g=>absurd (show Ji x i r from⟨by first|assumption|exact Fi.1 Xs,by omega,fun h=>by omega,fun h=>by omega⟩) g⟩,rfl,rfl⟩)
             all_goals
              refine Sk 21 V<|Z0<|HC (by exact ⟨true,⟨fun _ h8=>by obtain ⟨bn,cu,cO,d9⟩:=h8;first|omega|contradiction,fun _=>rfl⟩,rfl,rfl⟩)
            rintro _ _ ⟨b9,l9,rfl,rfl⟩;refine Af Y (fun gm=>?_) (fun gm=>?_);·
             have qa:¬Ji x i r:=l9.1 gm;refine A2<|AM Y<|Zt<|AX<|Zt<|Zt<|AX<|Zt<|AO V dq Y (by exact ⟨congrArg Value.bool (CC (qA hr qa)).symm,V⟩)
            have X:Ji x i r:=Z1 fun g=>absurd (l9.2 g) (by rw [gm];decide);refine B3<|B7 Y<|Zv (CW (n:=0) Y Y)<|A6<|Ad Y (fun gq=>?_) (fun gq=>?_);·
             obtain ⟨q,hq⟩:∃q,x.rows[i -1]?=some q:=⟨_,Bk A0⟩;obtain ⟨g2,p8,G,T2,W,ax,U,af,J⟩:=hg (i -1) q hq;injection ax with ax
             injection ax with e291 e292
             subst e291 e292;have o8:G[oq+(i -1)*5+1]?=some (I4 q.k):=by rw [Mv J af 1 A0];rfl
             refine Zq<|Au (n:=10) (0::1::0::4::15::31::0::64::255::511::[]) 256 AG AG V<|A1 0 V (AL (off:=6) Bm V rfl Cl Y)<|B6 1 V DQ Y ?_;refine A1 2 V (AA Y) ?_
             (refine Dr (D':=15) 3 (C8 (n:=1) Y Y ?_ ?_) ?_;(focus (first|omega|(simp;omega)));(focus (first|omega|(simp;omega))))
             refine A1 4 rfl (A9 B0 AW Y Y Fl)<|CX (b:=g1) (x:= .cells G T2 W) (D':=63) 5 rfl rfl rfl (by simp [U]) (A7 (cs:=q.Ax3) C5 AW Y A0 J) ?_;refine A1 6 V (AL (off:=1) Bm V rfl A4 Y)<|B6 7 V A5 Y ?_;refine Yw 8 511 V (Zu [_,_] Y Q2 Y V (Kt q x.cl A0))<|DA<|A1 9 V (Aq Y)<|Am<|Zx<|Zq<|Au (n:=20) (0::0::3::7::15::15::63::127::255::511::255::1279::255::4351::15615::31999::64767::131071::262143::524287::[]) 0 AG AG V<|A1 0 V (AA Y)<|A1 1 V (AA Y)<|A1 2 V (Dq Y Y)<|A1 3 V (AA Y)<|CS (t:=134) Y (fun d1=>?_) (fun d1=>?_);·
              first|rw [Cp d1]|rw [d1]|skip
              refine AK 4 V<|AK 5 V<|AK 6 V<|AK 7 V<|AK 8 V<|AK 9 V<|AK 10 V<|AK 11 V<|AK 12 V<|AK 13 V<|AK 14 V<|AK 15 V<|AK 16 V<|AK 17 V<|AK 18 V<|A1 19 V (Ay Y Y)<|Am<|Zn [1,3,4,150] ?_;refine Zx<|BV Y<|A2<|AM Y<|AX<|Zt<|Zt<|AX<|Zt<|AO V dq Y (by exact ⟨congrArg Value.bool (CC (fun g:Eb x=>by have ha:=(g.all i r hr).2 gq q hq;unfold Nt at ha;omega)).symm,V⟩)
             first|rw [CC d1]|rw [d1]|skip
             refine B1 4 V (AA Y)<|B1 5 V (AA Y)<|B1 6 V (Bd Y Y)<|B1 7 V (AA Y)<|CS (t:=138) Y (fun d2=>?_) (fun d2=>?_);focus
              first|rw [Cp d2]|rw [d2]|skip
              refine B1 8 V (AL (off:=1) F1 V rfl A4 Y)<|DG 9 V Wh (BZ A5 Y B5) ?_;refine B1 10 V (AL (off:=6) Bm V rfl Cl Y)<|DG 11 V Wh (BZ DQ Y B5) ?_;refine B1 12 V (AA Y) ?_
              (refine B1 13 rfl (C8 (n:=1) Y Y ?_ ?_) ?_;(focus (first|omega|(simp;omega)));(focus (first|omega|(simp;omega))))
              refine B1 14 rfl (A9 B0 AW Y Y Fl)<|B1 15 rfl (Aj (off:=1) F1 rfl rfl A4 Y)<|PR (b:=g1) (x:= .cells G T2 W) (D':=131071) 16 Y rfl rfl rfl (by simp [U]) (BZ A5 Y (by first|exact o8|simpa using o8)) ?_;refine B1 17 V (JB Y Y)<|B1 18 V (Ay Y Y)<|A1 19 V (BC Y Y)<|Am<|Zn [1,3,4,150] ?_;refine Zx<|Ad Y (fun d3=>?_) (fun d3=>?_);refine A2<|AM Y<|AX<|Zt<|Zt<|AX<|Zt<|AO V dq Y (by exact ⟨congrArg Value.bool (CC (fun g:Eb x=>by have ha:=(g.all i r hr).2 gq q hq;unfold Nt at ha;omega)).symm,V⟩)
             rotate_left
             focus
              first|rw [CC d2]|rw [d2]|skip
              refine AK 8 V<|AK 9 V<|AK 10 V<|AK 11 V<|AK 12 V<|AK 13 V<|AK 14 V<|AK 15 V<|AK 16 V<|AK 17 V<|B1 18 V (BC Y Y)<|A1 19 V (BC Y Y)<|Am<|Zn [1,3,4,150] ?_;refine Zx<|DY Y ?_
             all_goals
              refine AB<|A8<|Zx<|Zg<|Zm Y<|Ya (n:=1) Y Y<|AN Y<|Zn [4,1,3] ?_;refine Ac (e':=[(4,_)]) (by
               exact ⟨i+1,V,⟨by omega,fun j r9 E z=>by
                rcases FA j i with g|g
                · exact K j r9 g z
                · obtain rfl:j=i:=A0
                  rw [hr]at z;injection z with z;subst z
                  refine ⟨X,fun pg q9 O=>?_⟩
                  (rw [hq]at O;injection O with O;subst O;unfold Nt;omega)⟩,rfl,rfl⟩)
            refine AB<|A8<|Zx<|Zg<|Zm Y<|Ya (n:=1) Y Y<|AN Y<|Zn [4,1,3] ?_;refine Ac (e':=[(4,_)]) (by
             exact ⟨i+1,V,⟨by omega,fun j r9 E z=>by
              rcases FA j i with g|g
              · exact K j r9 g z
              · obtain rfl:j=i:=A0
                rw [hr]at z;injection z with z;subst z
                refine ⟨X,fun pg q9 O=>?_⟩
                (exfalso;omega)⟩,rfl,rfl⟩)
           obtain ⟨r0,gy⟩:∃r,x.rows[0]?=some r:=⟨_,Bk A0⟩;obtain ⟨rl,kv⟩:∃r,x.rows[x.rows.length -1]?=some r:=⟨_,Bk A0⟩;have I:Eb x↔(x.fi=0\/Bh r0 x.cl<x.lo)/\(x.fi+(x.rows.length:Int)=x.ct\/x.hi<Bh rl x.cl):=⟨fun h=>⟨h.first r0 gy,h.last rl kv⟩,fun h=>⟨by omega,by omega,by omega,by omega,by omega,fun h0=>absurd h0 hz,fun j r E=>K j r (by have:=(D3.1 E).1;omega) E,fun r E=>by rw [gy]at E;injection E with E;rw [<-E];exact h.1,fun r E=>by rw [kv]at E;injection E with E;rw [<-E];exact h.2⟩⟩
           obtain ⟨g2,p8,G,T2,W,rfl,U,af,J⟩:=hg 0 r0 gy;obtain ⟨g3,qy,l8,T3,qo,bf,pz,qx,mR⟩:=hg _ rl kv;injection bf with bf
           injection bf with e391 e392
           subst e391 e392;refine Az<|Zt<|Zt<|AU<|Zx<|Zb [1,3] ?_;refine C9 (e0:=[]) (H0:=[]) (fun e H=>∃(b1:Bool),(b1=decide (x.fi=0\/Bh r0 x.cl<x.lo))/\e=[(9,.bool b1)]/\H=[]) Wp ?hx_28 ?hy_28
           case hx_28=>
            refine Au (n:=16) (0::1::3::7::15::31::63::127::15::271::1023::15::2063::8191::16383::32767::[]) 1024 AG AG V<|A1 0 V (AL (off:=5) Bm V rfl A4 Y)<|B6 1 V A5 Y ?_;refine A1 2 V (Bd Y Y)<|A1 3 V (AA Y)<|CS (t:=154) Y (fun f1=>?_) (fun f1=>?_);·
             first|rw [Cp f1]|rw [f1]|skip
             refine AK 4 V<|AK 5 V<|AK 6 V<|AK 7 V<|AK 8 V<|AK 9 V<|AK 10 V<|AK 11 V<|AK 12 V<|AK 13 V<|A1 14 V (Ay Y Y)<|A1 15 V (Aq Y)<|Am<|FF (e:=[(9,_)]) (h:=by exact ⟨_,by exact (Cp (.inl Xs)).symm,V,V⟩)
            first|rw [CC f1]|rw [f1]|skip
            refine B1 4 V (AL (off:=6) Bm V rfl Cl Y)<|DG 5 V Wh (BZ DQ Y B5) ?_;refine B1 6 rfl (A9 (j:=0) B0 AW Y Y Fl)<|PR (b:=g2) (x:= .cells G T2 W) (D':=255) 7 Y rfl rfl rfl (by simp [U]) (A7 (cs:=r0.Ax3) C5 AW Y A0 J) ?_;refine B1 8 V (AL (off:=1) Bm V rfl A4 Y)<|DG 9 V Wh (BZ A5 Y B5) ?_;refine B1 11 V (AL (off:=2) Bm V rfl A4 Y)<|DG 12 V Wh (BZ A5 Y B5) ?_;refine Yz 10 1023 8191 [12,9,7,5,1] [true,false,false,false,false] [(12,(_,_))] V Y V rfl V rfl (Zu [_,_] Y Q2 Y V (Kt r0 x.cl A0))<|DA<|CA<|B1 13 V (Dq Y Y)<|A1 14 V (BC Y Y)<|A1 15 V (Aq Y)<|Am<|FF (e:=[(9,_)]) (h:=by exact ⟨_,by exact decide_eq_decide.2 A0,V,V⟩)
           rintro _ _ ⟨b1,ek,rfl,rfl⟩;refine Zb [1,3,9] ?_;refine C9 (e0:=[(1,_),(3,_)]) (H0:=[]) (fun e H=>∃(b2:Bool),(b2=decide (x.fi+(x.rows.length:Int)=x.ct\/x.hi<Bh rl x.cl))/\e=[(10,.bool b2)]/\H=[]) Wp ?hx_32 ?hy_32
           case hx_32=>
            refine Au (n:=22) (0::1::0::7::0::16::63::127::255::511::255::1279::4095::8191::255::16639::65535::255::131327::524287::1048575::2097151::[]) 65536 AG AG V<|A1 0 V (AL (off:=5) Bm V rfl A4 Y)<|B6 1 V A5 Y ?_;refine A1 2 V (AA Y) ?_
            (refine Dr (D':=15) 3 (Fw Y Y (IntWalk.i64_in _ ?_)) ?_;(focus (first|omega|(simp;omega))))
            refine A1 4 V (AL (off:=4) Bm V rfl A4 Y)<|B6 5 V A5 Y ?_;refine A1 6 V (Bd Y Y)<|A1 7 V (AA Y)<|CS (t:=173) Y (fun f2=>?_) (fun f2=>?_);·
             first|rw [Cp f2]|rw [f2]|skip
             refine AK 8 V<|AK 9 V<|AK 10 V<|AK 11 V<|AK 12 V<|AK 13 V<|AK 14 V<|AK 15 V<|AK 16 V<|AK 17 V<|AK 18 V<|AK 19 V<|A1 20 V (Ay Y Y)<|A1 21 V (Aq Y)<|Am<|FF (e:=[(10,_)]) (h:=by exact ⟨_,by exact (Cp (.inl Xs)).symm,V,V⟩)
            first|rw [CC f2]|rw [f2]|skip
            refine B1 8 V (AL (off:=6) Bm V rfl Cl Y)<|DG 9 V Wh (BZ DQ Y B5) ?_;refine B1 10 V (AA Y) ?_
            (refine B1 11 rfl (C8 (n:=1) Y Y ?_ ?_) ?_;(focus (first|omega|(simp;omega)));(focus (first|omega|(simp;omega))))
            refine B1 12 rfl (A9 B0 AW Y Y Fl)<|PR (b:=g2) (x:= .cells l8 T3 qo) (D':=16383) 13 Y rfl rfl rfl (by simp [pz]) (A7 (cs:=rl.Ax3) C5 AW Y A0 mR) ?_;refine B1 14 V (AL (off:=1) Bm V rfl A4 Y)<|DG 15 V Wh (BZ A5 Y B5) ?_;refine B1 17 V (AL (off:=3) Bm V rfl A4 Y)<|DG 18 V Wh (BZ A5 Y B5) ?_;refine Yz 16 65535 524287 [18,15,13,9,5,1] [true,false,false,false,false,false] [(18,(_,_))] V Y V rfl V rfl (Zu [_,_] Y Q2 Y V (Kt rl x.cl A0))<|DA<|CA<|B1 19 V (EE Y Y)<|A1 20 V (BC Y Y)<|A1 21 V (Aq Y)<|Am<|FF (e:=[(10,_)]) (h:=by exact ⟨_,by exact decide_eq_decide.2 A0,V,V⟩)
           rintro _ _ ⟨b2,p9,rfl,rfl⟩;refine A2<|Sk 2 V ?_;refine Ae (t:=188) Y V (fun f3=>?_) (fun f3=>?_);·
            refine Sk 2 rfl<|AM Y<|AO rfl dq Y (by exact ⟨by exact congrArg Value.bool (by rw [p9];exact decide_eq_decide.2 ⟨fun h=>I.2 ⟨I2 (ek.symm.trans f3),h⟩,fun h=>(I.1 h).2⟩),rfl⟩)
           refine Sk 2 rfl<|AM Y<|AO rfl dq Y (by exact ⟨by exact congrArg Value.bool (CC (fun g=>by have h8:=(I.1 g).1;rw [Cp h8]at ek;rw [ek]at f3;simp at f3)).symm,rfl⟩)
 all_goals
  refine A2<|AM Y<|Zt<|AO V dq Y (by exact ⟨congrArg Value.bool (CC (fun g:Eb x=>by have bn:=g.tc;have cu:=g.lh;have cO:=g.ct;have d9:=g.fi;have qz:=g.n;omega)).symm,V⟩)
set_option maxHeartbeats 1000000 in
theorem oU(hv:LQ M v x):CJ prog 117 #[v] [M] (fun r H'=>∃vr sr,r= .tuple #[vr,.bool (decide (Eb x))]/\BS 5 91 vr (Ci x).length (Aa (Ci x)) sr/\H'=[sr,M]):=by
 have kv:=mL;obtain ⟨vr,vp,vt,rfl,hR,hP,hT⟩:=id hv;obtain ⟨p,cap,e9,hl,hg⟩:=id hR;subst e9;refine Se func117 ntmps117 [0] ?_;intro u R;refine A2<|Ze (Bx #[_,_,_,_,_,_,_,_,_])<|AE fun pb=>Za Y<|AF Y<|A2<|Zo Wh (Pa #[_,_,_,_,_,_,_,_,_] It DM Y) ?_;refine Xr [_] Y call127 Y V (PD hv) ?_;refine AF Y<|C0 Y<|Zv (Bp Y)<|A6<|Ad Y (fun g=>?_) (fun g=>?_);·
  refine Bi<|A2<|Za Y<|AM Y<|Zt<|Cn rfl results117 Y Y (by exact ⟨.slice none 0 0,[],by rw [CC g],by rw [bV g];exact BX 5 _,rfl⟩)
 have g:=Fi.1 g;have d9:=g.tc
 have ek:=g.ct;have gm:=g.n
 have gq:=g.fi;refine AB<|BT<|CT Y<|A2<|AF Y<|AQ<|Bi<|Zb [5,6,1] ?_;refine Av (e0:=[(5,_),(6,_)]) (fun m e H=>∃(i:Nat) (vo:A3) (W:List AR),m=x.rows.length -i/\(i<=x.rows.length/\BS 5 91 vo ((x.rows.take i).filter (inB x)).length (Aa ((x.rows.take i).filter (inB x))) W)/\e=[(5,vo),(6,I4 (i:Int))]/\H=[W]) (by exact ⟨0,.slice none 0 0,[],rfl,⟨CD _,by rw [Hh];exact BX 5 _⟩,rfl,rfl⟩) Wp ?_;rintro _ _ _ ⟨i,vo,W,rfl,⟨hi,E⟩,rfl,rfl⟩;obtain ⟨qo,co,rfl⟩:=E.form;have gy:((x.rows.take i).filter (inB x)).length<=i:=To (On _ _) (cV _ _)
 refine C0 Y<|Zh 6 Bm V rfl Cl Y<|Zl DQ Y ?_;refine Zv (AJ B0 Y)<|Zv (Ak Y Y)<|A6<|Ad Y (fun K=>?_) (fun K=>?_);·
  obtain ⟨r,U⟩:∃r,x.rows[i]?=some r:=⟨_,Bk K⟩;obtain ⟨g1,bn,G,T1,X,rfl,O,bf,I⟩:=hg i r U;refine B3<|Zq<|AQ<|Zq<|Au (n:=9) (0::1::0::7::15::0::32::127::255::[]) 128 AG AG V<|A1 0 V (AL (off:=6) Bm V rfl Cl Y)<|B6 1 V DQ Y ?_;refine A1 2 rfl (AA Y)<|A1 3 rfl (A9 B0 AW Y Y Fl)<|CX (b:=g1) (x:= .cells G T1 X) (D':=31) 4 rfl rfl rfl (by simp [O]) (A7 (cs:=r.Ax3) C5 AW Y A0 I) ?_;refine A1 5 V (AL (off:=1) Bm V rfl A4 Y)<|B6 6 V A5 Y ?_;refine Yw 7 255 V (Zu [_,_] Y Q2 Y V (Kt r x.cl A0))<|DA<|A1 8 V (Aq Y)<|Am<|Zn [1,5,6,7] ?_;refine Zx<|B7 Y<|Zh 2 Bm V rfl A4 Y<|Zl A5 Y ?_;refine Zv (Fa Y Y)<|Zm Y<|AZ (t:=31) Y V (fun af=>?_) (fun af=>?_);focus
   refine Zf Y Y<|Yf 3 Bm V rfl A4 Y<|Yl A5 Y ?_;refine Yg (JB Y Y)<|HR Y Y<|A6<|Ad Y (fun ax=>?_) (fun ax=>?_);·
    have z:inB x r=true:=Cp A0;refine Zg<|Zm Y<|Zh 6 Bm V rfl Cl Y<|Zl DQ Y ?_;refine Zm Y<|BN (A9 B0 AW Y Y Fl)<|Cj (cs:=[(g1,.cells G T1 X)]) (by simp [O]) (A7 (cs:=r.Ax3) C5 AW Y A0 I) rfl rfl ?_;refine Ze (Ah (vs:=[_]) (cs:=[_,_,_,_,_]) B0 AW DS Y V rfl V rfl V)<|AE fun gb=>Ze (BL (by_:=40) (sz:=5) B0 (V:Tryz.prog.info? 91=some Tryz.t91) V rfl V rfl Y (E) Y (D7 5 gb 1 1 91 (0,0) [I4 r.t,I4 r.k,I4 r.v.a,I4 r.v.b,I4 r.v.c] V) Wo Wo HH A0 A0) ?_;rintro _ _ ⟨kz,J,rfl⟩;obtain ⟨cO,cu,rfl⟩:=J.form;refine AN Y<|Zn [1,5,6] ?_;refine A8<|Zx<|Zg<|Zm Y<|Ya (n:=1) Y Y<|AN Y<|DH (e:=[(5,_),(6,_)]) (h:=by exact ⟨i+1,_,_,rfl,⟨by omega,BJ J (by rw [XL U z,C7];rfl) (by rw [XL U z,BR];rfl)⟩,rfl,rfl⟩)
   focus
    have z:inB x r=false:=CC A0
  rotate_left
  focus
   have z:inB x r=false:=CC A0;refine Sk 5 V<|A6<|DY Y ?_
  all_goals
   refine AB<|A8<|Zx<|Zg<|Zm Y<|Ya (n:=1) Y Y<|AN Y<|DH (e:=[(5,_),(6,_)]) (h:=by exact ⟨i+1,_,W,rfl,⟨by omega,BJ E (by rw [XM U z]) (by rw [XM U z])⟩,rfl,rfl⟩)
 have ei:i=x.rows.length:=by omega
 subst ei;rw [HJ]at E⊢;refine Az<|Zt<|Zt<|AU<|BT<|Sk 2 rfl<|AM Y<|Cn rfl results117 Y Y (by exact ⟨.slice qo _ co,W,by rw [Cp g],by rw [Wi g];exact E,rfl⟩)
set_option maxHeartbeats 1000000 in
theorem YT{va vb:A3}{a b:RP}(ha:LQ M va a)(hb:LQ M vb b):BB prog 10 #[va,vb] [M] (.bool (decide (a=b))):=by
 have p8:=mL;obtain ⟨q9,pq,qb,rfl,W,O,af⟩:=ha;obtain ⟨qa,pz,qo,rfl,X,U,ax⟩:=hb;obtain ⟨p9,mR,rfl,o9,bn⟩:=id O;obtain ⟨pg,o8,rfl,oq,cu⟩:=id U;refine Se func10 ntmps10 [0,1] ?_;intro u R;refine A2<|Ze (Bx #[_,_,_,_,_,_,_,_,_])<|AE fun b1=>Ze (Bx #[_,_,_,_,_,_,_,_,_])<|AE fun b2=>CT Y<|A2<|Zh 0 Bm V rfl A4 Y<|Zl A5 Y ?_;refine Zh 0 Bm V rfl A4 Y<|Zl A5 Y ?_;refine Zv (ED Y Y)<|Zm Y<|AZ (t:=12) Y V (fun k1=>?_) (fun k1=>?_);·
  refine Sk 43 V<|Z0<|Zn [2,3,55] ?_;refine Zx<|BV Y<|A2<|AM Y<|Zt<|AO V X2 Y (by exact ⟨Co (fun e=>by subst e;exact absurd V k1),V⟩)
 refine Yf 1 Bm V rfl A4 Y<|Yl A5 Y ?_;refine Yf 1 Bm V rfl A4 Y<|Yl A5 Y ?_;refine Yg (ED Y Y)<|Sk 2 V ?_;refine AZ (t:=19) Y V (fun k2=>?_) (fun k2=>?_);·
  refine Sk 36 V<|Z0<|Zn [2,3,55] ?_;refine Zx<|BV Y<|A2<|AM Y<|Zt<|AO V X2 Y (by exact ⟨Co (fun e=>by subst e;exact absurd V k2),V⟩)
 refine Yf 2 Bm V rfl A4 Y<|Yl A5 Y ?_;refine Yf 2 Bm V rfl A4 Y<|Yl A5 Y ?_;refine Yg (ED Y Y)<|Sk 2 V ?_;refine AZ (t:=26) Y V (fun k3=>?_) (fun k3=>?_);·
  refine Sk 29 V<|Z0<|Zn [2,3,55] ?_;refine Zx<|BV Y<|A2<|AM Y<|Zt<|AO V X2 Y (by exact ⟨Co (fun e=>by subst e;exact absurd V k3),V⟩)
 refine Yf 3 Bm V rfl A4 Y<|Yl A5 Y ?_;refine Yf 3 Bm V rfl A4 Y<|Yl A5 Y ?_;refine Yg (ED Y Y)<|Sk 2 V ?_;refine AZ (t:=33) Y V (fun k4=>?_) (fun k4=>?_);·
  refine Sk 22 V<|Z0<|Zn [2,3,55] ?_;refine Zx<|BV Y<|A2<|AM Y<|Zt<|AO V X2 Y (by exact ⟨Co (fun e=>by subst e;exact absurd V k4),V⟩)
 refine Yf 4 Bm V rfl A4 Y<|Yl A5 Y ?_;refine Yf 4 Bm V rfl A4 Y<|Yl A5 Y ?_;refine Yg (ED Y Y)<|Sk 2 V ?_;refine AZ (t:=40) Y V (fun k5=>?_) (fun k5=>?_);·
  refine Sk 15 V<|Z0<|Zn [2,3,55] ?_;refine Zx<|BV Y<|A2<|AM Y<|Zt<|AO V X2 Y (by exact ⟨Co (fun e=>by subst e;exact absurd V k5),V⟩)
 refine Yf 5 Bm V rfl A4 Y<|Yl A5 Y ?_;refine Yf 5 Bm V rfl A4 Y<|Yl A5 Y ?_;refine Yg (ED Y Y)<|Sk 2 V ?_;refine AZ (t:=47) Y V (fun k6=>?_) (fun k6=>?_);·
  refine Sk 8 V<|Z0<|Zn [2,3,55] ?_;refine Zx<|BV Y<|A2<|AM Y<|Zt<|AO V X2 Y (by exact ⟨Co (fun e=>by subst e;exact absurd V k6),V⟩)
 refine Yf 7 Bm V rfl Mn Y<|Yl Q1 Y ?_;refine Yg (AJ LR Y)<|Yf 7 Bm V rfl Mn Y<|Yl Q1 Y ?_;refine Yg (AJ LR Y)<|Yg (Cb Y Y)<|H3 Y Y<|Z0<|Zn [2,3,55] ?_;refine Zx<|Ad Y (fun k7=>?_) (fun k7=>?_);·
  refine A2<|AM Y<|Zt<|AO V X2 Y (by exact ⟨Co (fun e=>by subst e;exact absurd V k7),V⟩)
 have K:a.tb=b.tb/\a.cl=b.cl/\a.lo=b.lo/\a.hi=b.hi/\a.ct=b.ct/\a.fi=b.fi:=by omega
 have gq:a.paths.length=b.paths.length:=by omega
 refine B3<|Zq<|A2<|AF Y<|AQ<|Zb [5,2,3] ?_;refine Av (e0:=[(5,_)]) (fun m e H=>∃(i:Nat),m=a.paths.length -i/\(i<=a.paths.length/\∀j,j<i->a.paths[j]?=b.paths[j]?)/\e=[(5,I4 (i:Int))]/\H=[]) (by exact ⟨0,V,⟨CD _,by intro j hj;omega⟩,V,V⟩) Wp ?_;rintro _ _ _ ⟨i,rfl,⟨hi,g⟩,rfl,rfl⟩;refine C0 Y<|Zh 7 Bm V rfl Mn Y<|Zl Q1 Y ?_;refine Zv (AJ LR Y)<|Zv (Ak Y Y)<|A6<|Ad Y (fun cO=>?_) (fun cO=>?_);·
  obtain ⟨x,hx⟩:∃x,a.paths[i]?=some x:=⟨_,Bk A0⟩;obtain ⟨y,hy⟩:∃y,b.paths[i]?=some y:=⟨_,Bk A0⟩;obtain ⟨qx,cx,gy,g1,l9,E,T1,kz,rfl,d9,I⟩:=bn i x hx;obtain ⟨qy,cy,kv,g2,lv,G,T2,l8,rfl,ek,J⟩:=cu i y hy;refine B3<|Zq<|AQ<|Zq<|Au (n:=12) (0::1::0::7::15::0::32::0::224::480::1023::2047::[]) 1024 AG AG V<|A1 0 V (AL (off:=7) Bm V rfl Mn Y)<|B6 1 V Q1 Y ?_;refine A1 2 rfl (AA Y)<|A1 3 rfl (BO LR Hj Y Y Fl)<|CX (b:=g1) (x:= .cells E T1 kz) (D':=31) 4 rfl rfl rfl (by simp [d9]) (BZ Iv Y (by exact I)) ?_;refine A1 5 V (AL (off:=7) Bm V rfl Mn Y)<|B6 6 V Q1 Y ?_;refine A1 7 rfl (AA Y)<|A1 8 rfl (BO LR Hj Y Y Fl)<|CX (b:=g2) (x:= .cells G T2 l8) (D':=1023) 9 rfl rfl rfl (by simp [ek]) (BZ Iv Y (by exact J)) ?_;refine Yw 10 2047 V (Zu [_,_] Y call41 Y V (iD gy kv))<|DA<|A1 11 V (Aq Y)<|Am<|Zn [2,3,5,6] ?_;refine Zx<|B7 Y<|Zv (Bp Y)<|A6<|Ad Y (fun hd=>?_) (fun hd=>?_);·
   refine A2<|AM Y<|AX<|Zt<|Zt<|AX<|Zt<|AO rfl X2 Y (by exact ⟨Co (fun e=>by rw [e,hy]at hx;injection hx with hx;exact hd hx.symm),rfl⟩)
  have bf:x=y:=Fi.1 hd;refine AB<|A8<|Zx<|Zg<|Zm Y<|Ya (n:=1) Y Y<|AN Y<|HN (by exact ⟨i+1,rfl,⟨by omega,fun j hj=>by rcases FA j i with z|z;exact g j z;obtain rfl:j=i:=A0;rw [hx,hy];exact congrArg some bf⟩,rfl,rfl⟩)
 have gm:a.paths=b.paths:=Iu gq (fun j hj=>g j A0);refine Az<|Zt<|Zt<|AU<|BT<|Zh 6 Bm V rfl Cl Y<|Zl DQ Y ?_;refine Zh 6 Bm V rfl Cl Y<|Zl DQ Y ?_;refine Xr [_,_] Y call42 Y V (ug W X) ?_;refine Zm Y<|AZ (t:=81) Y V (fun h2=>?_) (fun h2=>?_);·
  refine Yf 8 Bm V rfl Hj Y<|Yl Iv Y ?_;refine Yf 8 Bm V rfl Hj Y<|Yl Iv Y ?_;refine Xr [_,_] Y call41 Y V (iD af ax) ?_;refine HR Y Y<|AN Y<|Zn [4] ?_;refine Zx<|AC<|AO V X2 Y (by exact ⟨by exact F4 ⟨fun z=>Ql.2 ⟨gm,K,h2,z⟩,fun z=>(Ql.1 z).2.2.2⟩,V⟩)
 refine Sk 6 V<|AN Y<|Zn [4] ?_;refine Zx<|AC<|AO V X2 Y (by exact ⟨by exact Co (fun e=>h2 (Ql.1 e).2.2.1),V⟩)
variable{rs:List AV}
theorem Ol(g:BP rs):rs.Nodup:=g.imp (by
 intro a b h e;subst e;unfold AV.lt2 at h;omega)
variable{q:QM}
theorem Ov(g:BH q)(rs:List AV)(x:AV):x∈Cm rs q↔x∈rs/\inQ q x=true:=by rw [(Ie g rs).mem_iff,PA]
theorem Rx(g:BH q)(m:BP rs):(Cm rs q).Nodup:=(Ie g rs).nodup_iff.2 ((Ol m).filter _)
theorem Rw(E:BH q){o:List AV}(g:BP rs)(hn:o.Nodup)(z:∀x,x∈o↔x∈rs/\inQ q x=true)(h2:o.Pairwise (leV q.cl.toNat)):o=Cm rs q:=by
 have h:=Ie E rs;refine Rt g (f:=inQ q) (t:=q.tb) (fun r m=>(I2 m).1) ?_ h h2 (F9 g _ _ _ _);exact (fc hn ((Ol g).filter _)).2 fun x=>by rw [z,PA]
variable{y:AV}
theorem PK{b:Bool}{x:AV}(h:IQ q b x=some y):y=x/\b=true/\inQ q y=true:=by
 unfold IQ at h;split at h
 · rename_i h9
   rw [HB]at h9;injection h with h
   subst h;exact ⟨V,h9⟩
 · cases h
theorem pO{b:Bool}{x:AV}(h:IQ q b x=none)(g:b=true):inQ q x=false:=by
 unfold IQ at h;rw [g,M1]at h;split at h;· cases h
 · simp_all
theorem Rc(g:BH q)(y x:AV):Ht q y x=true↔Dz y q.cl.toNat<Dz x q.cl.toNat\/(Dz x q.cl.toNat=Dz y q.cl.toNat/\y.k<x.k):=by
 have hc:=g.2.1;have e:∀r,Bh r q.cl=Dz r q.cl.toNat:=fun r=>by
  have:=LY r q.cl.toNat A0;rwa [show((q.cl.toNat:Nat):Int)=q.cl by omega]at this
 unfold Ht;rw [e,e,Wa,HB,LL,LL,LL]
theorem yx(z:BH q){x:AV}(h:Ht q y x=false):leV q.cl.toNat x y:=by
 have g:=Rc z y x;rw [h]at g;unfold leV;have:¬(Dz y q.cl.toNat<Dz x q.cl.toNat\/(Dz x q.cl.toNat=Dz y q.cl.toNat/\y.k<x.k)):=fun m=>by cases g.2 m
 omega
theorem yz(g:BH q){x:AV}(h:Ht q y x=true):leV q.cl.toNat y x:=by
 have:=(Rc g y x).1 h;unfold leV;omega
theorem Vr(z:BH q){L:List AV}(J:L.Pairwise (leV q.cl.toNat))(y:AV):∃A B,L=A++B/\PS (Ht q y) L y=A++[y]++B/\(∀x∈A,Ht q y x=false)/\(∀x∈B,Ht q y x=true):=by
 cases h:L.findIdx? (Ht q y)with
 |none=>
  refine ⟨L,[],by simp,?_,Z2.1 h,by simp⟩;unfold PS;rw [h];simp
 |some i=>
  obtain ⟨E,h2,G⟩:=Sp.1 h;refine ⟨L.take i,L.drop i,(Ln i L).symm,?_,fun x hx=>?_,fun x hx=>?_⟩
  · unfold PS
    rw [h];rfl
  · obtain ⟨j,g⟩:=JT hx
    rw [I3]at g;split at g
    · rename_i hji
      obtain ⟨K,rfl⟩:=D3.1 g;simpa using G j hji
    · cases g
  · have m:=J.sublist (List.drop_sublist i L)
    rw [Sx E]at hx m;rcases H4.1 hx with rfl|hx
    · exact h2
    · have I:=(TX.1 m).1 x hx
      have O:=(Rc z y _).1 h2;rw [Rc z];unfold leV at I;omega
theorem ZI(g:AV->Bool)(L:List AV)(y:AV):(PS g L y).Perm (y::L):=by
 unfold PS;simp only [G0,WD];refine cY.trans ?_;rw [Ln]
theorem eP(z:BH q){L:List AV}(g:L.Pairwise (leV q.cl.toNat))(y:AV):(PS (Ht q y) L y).Pairwise (leV q.cl.toNat):=by
 obtain ⟨A,B,e,G,K,O⟩:=Vr z g y;rw [G];rw [e]at g;obtain ⟨I,h2,J⟩:=RE.1 g;rw [G0];refine RE.2 ⟨I,TX.2 ⟨fun x hx=>yz z (O x hx),h2⟩,fun a E b m=>?_⟩;rcases H4.1 m with rfl|m
 · exact yx z (K a E)
 · exact J a E b m
theorem yJ(c:Chg)(x:AV):Fy c x=true↔x.is c.t c.k:=by
 unfold Fy AV.is;rw [HB,LL,LL]
variable{c:Chg}
theorem Sq(m:BH q)(g:BP rs)(z:Gy rs c):Cv q c (Cm rs q)=Cm (Ej rs c) q:=by
 have I:((Cm rs q).filter fun x=>!Fy c x).Pairwise (leV q.cl.toNat):=(F9 g _ _ _ _).sublist lz;have J:((Cm rs q).filter fun x=>!Fy c x).Nodup:=(Rx m g).filter _
 have E:∀x,x∈((Cm rs q).filter fun x=>!Fy c x)↔(x∈rs/\¬x.is c.t c.k)/\inQ q x=true:=fun x=>by
  rw [PA,Ov m,S7,<-Bool.not_eq_true,yJ];constructor;· rintro ⟨⟨a,b⟩,d⟩;exact ⟨⟨a,d⟩,b⟩
  · rintro ⟨⟨a,d⟩,b⟩;exact ⟨⟨a,b⟩,d⟩
 unfold Cv;cases ha:afQ q c with
 |none=>
  refine Rw m (Jz g z) J (fun x=>?_) I;rw [E,Gp g z];constructor;· rintro ⟨a,b⟩;exact ⟨.inl a,b⟩
  · rintro ⟨a|⟨a,rfl⟩,b⟩
    · exact ⟨a,b⟩
    · rw [pO ha a]at b;cases b
 |some y=>
  obtain ⟨hy,K,hi⟩:=PK ha;have G:y∉((Cm rs q).filter fun x=>!Fy c x):=fun h=>((E y).1 h).1.2 (by rw [hy];exact ⟨rfl,rfl⟩)
  refine Rw m (Jz g z) ((ZI _ _ y).nodup_iff.2 (cf.2 ⟨G,J⟩)) (fun x=>?_) (eP m I y);rw [(ZI _ _ y).mem_iff,H4,E,Gp g z];constructor
  · rintro (rfl|⟨a,b⟩)
    · exact ⟨.inr ⟨K,hy⟩,hi⟩
    · exact ⟨.inl a,b⟩
  · rintro ⟨a|⟨a,e⟩,b⟩
    · exact .inr ⟨a,b⟩
    · exact .inl (e.trans hy.symm)
theorem aF(lt:Int->Int->Bool)(G:∀a b c,lt b a=false->lt c b=false->lt c a=false)(m:∀a,lt a a=false)(g:∀a b,lt a b=true->lt b a=false)(E:∀a b,lt a b=false->lt b a=false->a=b){l:List Int}{x:Int}(hx:x∈l)(h:∀y∈l,lt y x=false):EZ lt l=⟨[],x,true⟩:=by
 match l,hx,h with
 |z::l,hx,h=>
  obtain ⟨I,J,K,O⟩:=LJ lt G m g z l;rw [O,E x I (K x hx) (h I J)]
theorem rT(lt:Int->Int->Bool)(l:List Int)(n:Int):EZ lt (l++[n])=⟨(EZ lt l).rows,if !(EZ lt l).fnd||lt n (EZ lt l).val then n else(EZ lt l).val,true⟩:=by
 unfold EZ;rw [RM];rfl
theorem lq(lt:Int->Int->Bool)(G:∀a b c,lt b a=false->lt c b=false->lt c a=false)(g:∀a,lt a a=false)(m:∀a b,lt a b=true->lt b a=false)(E:∀a b,lt a b=false->lt b a=false->a=b)(X:List Int)(b a:Option Int)
 (h:(FH lt b.isSome a.isSome (b.getD 0) (a.getD 0) (EZ lt (X++b.toList))).2=true):(FH lt b.isSome a.isSome (b.getD 0) (a.getD 0) (EZ lt (X++b.toList))).1=EZ lt (X++a.toList):=by
 have I:∀r:CB,r=EZ lt X->(if a.isSome then((⟨r.rows,if !r.fnd||lt (a.getD 0) r.val then a.getD 0 else r.val,true⟩:CB),true)else(r,true)).1=EZ lt (X++a.toList):=fun r hr=>by
  subst hr;cases a with
  |none=>simp
  |some n=>rw [mC,rT];rfl
 cases b with
 |none=>
  have e:EZ lt (X++(none:Option Int).toList)=EZ lt X:=by simp
  rw [e]at h⊢;exact I _ V
 |some o=>
  have K:∃x∈X++[o],(∀y∈X++[o],lt y x=false)/\EZ lt (X++[o])=⟨[],x,true⟩:=by
   cases hx:X++[o]with
   |nil=>simp at hx
   |cons z l=>exact LJ lt G g m z l
  obtain ⟨x,W,h2,h3⟩:=K;rw [mC]at h⊢;rw [h3]at h⊢;unfold FH at h⊢;simp only [mN,fy,M1,S2,ke]at h⊢;cases hxo:lt x o with
  |false=>
   rw [hxo]at h;simp only [da,Mp]at h⊢;have O:=h2 o C4
   have J:=E x o hxo O;subst J;cases a with
   |none=>simp at h
   |some n=>
    simp only [mN,fy,M1,el,S7]at h;rw [mC,aF lt G g m E (x:=n) C4 fun y hy=>?_];· rfl
    · rcases GS.1 hy with hy|hy
      · exact G n x y h (h2 y (by simp [hy]))
      · rw [HA.1 hy];exact g n
  |true=>
   simp only [S2,PC,LN];have U:x∈X:=by
    rcases GS.1 W with h9|h9
    · exact h9
    · rw [HA.1 h9,g]at hxo;cases hxo
   have e:(⟨[],x,true⟩:CB)=EZ lt X:=(aF lt G g m E U fun y hy=>h2 y (by simp [hy])).symm;have:=I _ e
   simpa using this
theorem PQ(q:QM)(a b:List AV):DI q (a++b)=DI q a++DI q b:=HD
theorem Yy(q:QM)(o:Option AV):DI q o.toList=(o.map fun r=>Bh r q.bq).toList:=by cases o<;>rfl
theorem dw(q:QM)(o:Option AV):mQ q o=(o.map fun r=>Bh r q.bq).getD 0:=by cases o<;>rfl
theorem iM(q:QM)(o:Option AV):o.isSome=(o.map fun r=>Bh r q.bq).isSome:=by cases o<;>rfl
theorem uM(o:Option Int):Kh o.toList=o.getD 0:=by
 cases o with
 |none=>rfl
 |some x=>show x+0=x;omega
theorem YZ(I:BH q)(hs:BP rs)(hf:Gy rs c)(h7:q.kd≠7)(G:Dc q c=true)(h:(CF q c (EI rs q)).2=true):(CF q c (EI rs q)).1=EI (Ej rs c) q:=by
 obtain ⟨A,B,e1,e2⟩:=QC hf;have f1:rs.filter (inQ q)=A.filter (inQ q)++(bfQ q c).toList++B.filter (inQ q):=by
  conv=>lhs;rw [e1]
  rw [Lz,Lz,TL]
 have f2:(Ej rs c).filter (inQ q)=A.filter (inQ q)++(afQ q c).toList++B.filter (inQ q):=by
  rw [e2,Lz,Lz,TN]
 have p1:=Ie I rs;have p2:=Ie I (Ej rs c)
 rw [f1]at p1;rw [f2]at p2;have hk:=I.2.2.2
 have l1:=p1.length_eq;have l2:=p2.length_eq
 simp only [C7]at l1 l2;have m1:(DI q (Cm rs q)).Perm ((DI q (A.filter (inQ q))++DI q (B.filter (inQ q)))++((bfQ q c).map fun r=>Bh r q.bq).toList):=by
  rw [<-Yy,<-PQ,<-PQ];refine (p1.map _).trans (List.Perm.map _ ?_);simp only [G0];exact bm _ S4
 have m2:(DI q (Cm (Ej rs c) q)).Perm ((DI q (A.filter (inQ q))++DI q (B.filter (inQ q)))++((afQ q c).map fun r=>Bh r q.bq).toList):=by
  rw [<-Yy,<-PQ,<-PQ];refine (p2.map _).trans (List.Perm.map _ ?_);simp only [G0];exact bm _ S4
 have hx:∀lt:Int->Int->Bool,(∀a b c,lt b a=false->lt c b=false->lt c a=false)->(∀a,lt a a=false)->(∀a b,lt a b=true->lt b a=false)->(∀a b,lt a b=false->lt b a=false->a=b)->(FH lt (bfQ q c).isSome (afQ q c).isSome (mQ q (bfQ q c)) (mQ q (afQ q c)) (EZ lt (DI q (Cm rs q)))).2=true->(FH lt (bfQ q c).isSome (afQ q c).isSome (mQ q (bfQ q c)) (mQ q (afQ q c)) (EZ lt (DI q (Cm rs q)))).1=EZ lt (DI q (Cm (Ej rs c) q)):=fun lt J K O U h9=>by
  rw [PX lt J K O U (fun y=>m1.mem_iff),dw,dw,iM,iM]at h9⊢;rw [PX lt J K O U (fun y=>m2.mem_iff)];exact lq lt J K O U _ _ _ h9
 unfold CF EI Cc at h⊢;unfold Dc at G;rcases (by omega:(q.kd=1\/q.kd=2)\/q.kd=3\/q.kd=4\/q.kd=5\/q.kd=6)with h8|h8|h8|h8|h8
 · have z:¬q.kd=3:=by omega
   have E:¬q.kd=4:=by omega
   have W:¬q.kd=5:=by omega
   have g6:¬q.kd=6:=by omega
   simp only [B2 h8,z,E,W,g6,h7,LN,Sq I hs hf]
 · have m:¬(q.kd=1\/q.kd=2):=by omega
   simp only [Ax m,B2 h8]at G⊢;unfold TK at G;cases hb:bfQ q c<;>cases ha:afQ q c<;>rw [hb,ha]at G<;>rw [hb]at l1<;>rw [ha]at l2<;>simp at G l1 l2⊢<;>omega
 · have m:¬(q.kd=1\/q.kd=2):=by omega
   have z:¬q.kd=3:=by omega
   simp only [Ax m,z,B2 h8,LN];have s1:=ND m1
   have s2:=ND m2;rw [Xv,uM,<-dw]at s1 s2;have g:∀l,MF l=Kh l:=fun l=>by unfold MF;rw [NQ];omega
   simp only [g];congr 1;omega
 · have m:¬(q.kd=1\/q.kd=2):=by omega
   have z:¬q.kd=3:=by omega
   have E:¬q.kd=4:=by omega
   simp only [Ax m,z,E,B2 h8,LN]at h⊢;exact hx _ (fun a b c X h2=>by simp only [Rg]at*;omega) (fun a=>by simp) (fun a b h=>by simp only [LL,Rg]at*;omega) (fun a b X h2=>by simp only [Rg]at*;omega) h
 · have m:¬(q.kd=1\/q.kd=2):=by omega
   have z:¬q.kd=3:=by omega
   have E:¬q.kd=4:=by omega
   have W:¬q.kd=5:=by omega
   simp only [Ax m,z,E,W,B2 h8,LN]at h⊢;exact hx _ (fun a b c X h2=>by simp only [Rg]at*;omega) (fun a=>by simp) (fun a b h=>by simp only [LL,Rg]at*;omega) (fun a b X h2=>by simp only [Rg]at*;omega) h
theorem GU(z:BP rs)(k:Int)(x:AV):Dv q (JL rs q.ot) k=some x↔x∈rs/\x.is q.ot k:=by
 have K:∀a∈rs,∀b∈rs,a.is q.ot k->b.is q.ot k->a=b:=fun a I b J G h2=>by
  have E:=LG z I G;have m:=LG z J h2
  rw [E]at m;injection m
 have g:∀y,y∈JL rs q.ot/\decide (y.t=q.ot/\y.k=k)=true↔y∈rs/\y.is q.ot k:=fun y=>by
  unfold JL inT AV.is;rw [PA,LL,LL];constructor;· rintro ⟨⟨a,_⟩,b⟩;exact ⟨a,b⟩
  · rintro ⟨a,b⟩;exact ⟨⟨a,b.1⟩,b⟩
 unfold Dv;constructor
 · intro h
   exact (g x).1 ⟨iS h,by simpa using kO (p:=fun x:AV=>decide (x.t=q.ot/\x.k=k)) h⟩
 · intro h
   cases hf:(JL rs q.ot).find? fun x=>decide (x.t=q.ot/\x.k=k)with
   |none=>
    have:=eS.1 hf x ((g x).2 h).1;exact absurd ((g x).2 h).2 this
   |some y=>
    have h2:=(g y).1 ⟨iS hf,by simpa using kO (p:=fun x:AV=>decide (x.t=q.ot/\x.k=k)) hf⟩;rw [K y h2.1 x h.1 h2.2 h.2]
def prQ(rs:List AV)(q:QM)(r:AV):Option BQ:=(Dv q (JL rs q.ot) (Bh r q.bq)).map fun x=>⟨r,x⟩
def zq(rs:List AV)(q:QM):List BQ:=(Cm rs q).filterMap (prQ rs q)
theorem ZE(rs:List AV)(q:QM):∀l:List AV,IR q l (JL rs q.ot)=BU (l.filterMap (prQ rs q))
 |[]=>rfl
 |r::l=>by
  have h:=ZE rs q l;unfold IR at h⊢;rw [L0,h,iv];unfold H6 prQ;cases Dv q (JL rs q.ot) (Bh r q.bq)<;>rfl
theorem dW(ps:List BQ):Bl (BU ps)=ps:=by
 have E:(BU ps).length=2*ps.length:=Dh ps;have g:∀(ps:List BQ) (k:Nat) (p:BQ),ps[k]?=some p->(BU ps)[2*k]?=some p.l/\(BU ps)[2*k+1]?=some p.r:=by
  intro ps;induction ps with
  |nil=>intro k p h;cases h
  |cons a ps ih=>
   intro k p h;have e:BU (a::ps)=a.l::a.r::BU ps:=rfl
   rw [e];cases k with
   |zero=>injection h with h;subst h;exact ⟨rfl,rfl⟩
   |succ k=>
    have:=ih k p h;rw [show 2*(k+1)=2*k+2 by omega];exact this
 apply S8;intro k;have m:(Bl (BU ps)).length=ps.length:=by rw [Gj];omega
 rcases FA k ps.length with h|h
 · obtain ⟨z,h2⟩:=g ps k _ (Bk h)
   unfold Bl;rw [HL,eN A0,N5,Nd,Nd,z,h2,Bk h];rfl
 · rw [RC A0,RC h]
theorem uw{α:Type}{a b:Option α}(h:∀x,a=some x↔b=some x):a=b:=Option.ext h
theorem VO{p:BQ}(h:prQ rs q r=some p):p.l=r/\Dv q (JL rs q.ot) (Bh r q.bq)=some p.r:=by
 unfold prQ at h;cases hp:Dv q (JL rs q.ot) (Bh r q.bq)with
 |none=>rw [hp]at h;cases h
 |some x=>rw [hp]at h;injection h with h;subst h;exact ⟨rfl,rfl⟩
theorem Tf{α β:Type}{f g:α->Option β}:∀{l:List α},(∀x∈l,f x=g x)->l.filterMap f=l.filterMap g
 |[],_=>rfl
 |x::l,h=>by rw [iv,iv,h x C4,Tf fun y hy=>h y (by simp [hy])]
theorem Nk{α β γ:Type}(f:α->Option β)(g:β->Option γ)(h:α->Option γ)(l:List α)(e:∀x∈l,(f x).bind g=h x):(l.filterMap f).filterMap g=l.filterMap h:=by
 rw [lO];exact Tf e
theorem rP(g:BQ->Bool)(A B:List BQ)(y:BQ)(m:∀x∈A,g x=false)(z:∀x∈B,g x=true):KZ g (A++B) y=A++[y]++B:=by
 have e:((A++B).findIdx? g).getD (A++B).length=A.length:=by
  rw [List.findIdx?_append,Z2.2 m];cases B with
  |nil=>simp
  |cons b B=>rw [List.findIdx?_cons,z b C4];simp
 unfold KZ;rw [e];simp
theorem YY(hq:BH q)(I:BP rs)(U:Gy rs c)(h7:q.kd=7)(ht:Dc q c=true)(h:(CF q c (EI rs q)).2=true):(CF q c (EI rs q)).1=EI (Ej rs c) q:=by
 have kv:=Jz I U;have gq:∀rs,EI rs q=⟨BU (zq rs q),0,false⟩:=fun rs=>by
  unfold EI Cc;simp only [show¬q.kd=3 by omega,show¬q.kd=4 by omega,show¬q.kd=5 by omega,show¬q.kd=6 by omega,h7,Mp,LN];rw [ZE];rfl
 have mR:∀r,CF q c r=D9 q c r:=fun r=>by
  unfold CF;simp only [show¬(q.kd=1\/q.kd=2) by omega,show¬q.kd=3 by omega,show¬q.kd=4 by omega,show¬q.kd=5 by omega,show¬q.kd=6 by omega,LN]
 have o9:U4 q c=true\/c.t=q.ot:=by
  unfold Dc at ht;simp only [show¬(q.kd=1\/q.kd=2) by omega,show¬q.kd=3 by omega,show¬q.kd=4 by omega,show¬(q.kd=5\/q.kd=6) by omega,LN,Wa,LL]at ht;exact ht
 rw [mR,gq]at h⊢;rw [gq];unfold D9 at h⊢;split;· rename_i g;rw [B2 g]at h;cases h
 rename_i hto;rw [Ax hto]at h;simp only [dW]at h⊢;congr 2;have d9:c.t≠q.tb->Cm (Ej rs c) q=Cm rs q:=fun gy=>by
  refine (Rw hq kv (Rx hq I) (fun x=>?_) (F9 I _ _ _ _)).symm;rw [Ov hq,Gp I U];constructor
  · rintro ⟨a,b⟩
    exact ⟨.inl ⟨a,fun g=>gy (g.1.symm.trans (I2 b).1)⟩,b⟩
  · rintro ⟨⟨a,_⟩|⟨a,rfl⟩,b⟩
    · exact ⟨a,b⟩
    · exact absurd (I2 b).1 gy
 unfold jnT zq at h⊢;by_cases z:c.t=q.ot
 · rw [B2 z]at h⊢
   rw [d9 A0];have K:∀k,Dv q (JL (Ej rs c) q.ot) k=if k=c.k then(if c.has then some ⟨c.t,c.k,c.n⟩else none)else Dv q (JL rs q.ot) k:=fun k=>by
    apply uw;intro x;rw [GU kv,Gp I U];unfold AV.is;split
    · rename_i m
      split
      · rename_i J
        rw [Option.some_inj];constructor
        · rintro ⟨⟨_,a⟩|⟨_,rfl⟩,b,d⟩
          · exact absurd ⟨b.trans z.symm,d.trans m⟩ a
          · rfl
        · rintro rfl;exact ⟨.inr ⟨J,rfl⟩,z,m.symm⟩
      · rename_i J
        constructor
        · rintro ⟨⟨_,a⟩|⟨a,_⟩,b,d⟩
          · exact absurd ⟨b.trans z.symm,d.trans m⟩ a
          · exact absurd a J
        · intro g;cases g
    · rename_i m
      rw [GU I];unfold AV.is;constructor
      · rintro ⟨⟨a,_⟩|⟨_,rfl⟩,b⟩
        · exact ⟨a,b⟩
        · exact absurd b.2.symm m
      · rintro ⟨a,b,d⟩
        exact ⟨.inl ⟨a,fun g=>m (d.symm.trans g.2)⟩,b,d⟩
   have X:c.had=true->∃x,Dv q (JL rs q.ot) c.k=some x:=fun J=>by
    obtain ⟨r,hr,hi,_⟩:=KC (U.1.trans J);exact ⟨r,(GU I c.k r).2 ⟨hr,by rw [<-z];exact hi⟩⟩
   have G:∀{k x},Dv q (JL rs q.ot) k=some x->x.k=k:=fun g=>((GU I _ _).1 g).2.2;split
   · rename_i J
     rw [B2 J]at h;obtain ⟨x0,O⟩:=X h;rw [<-List.filterMap_eq_map];refine Nk _ _ _ _ fun r _=>?_;unfold prQ;rw [K,J];by_cases m:Bh r q.bq=c.k
     · rw [m,O,B2 rfl]
       simp only [N5,I0,Function.comp_apply,EW,G O,decide_true,Mp]
     · rw [Ax m]
       cases E:Dv q (JL rs q.ot) (Bh r q.bq)with
       |none=>rfl
       |some x=>simp only [N5,I0,Function.comp_apply,EW,G E,m,eC,PC,LN]
   · rename_i J
     rw [Ax J]at h;rw [<-lP];refine Nk _ _ _ _ fun r _=>?_;unfold prQ;rw [K,Ax J];by_cases m:Bh r q.bq=c.k
     · rw [m,B2 rfl]
       obtain ⟨x0,O⟩:=X h;rw [O];simp [Option.guard,EW,G O]
     · rw [Ax m]
       cases E:Dv q (JL rs q.ot) (Bh r q.bq)with
       |none=>rfl
       |some x=>simp [Option.guard,EW,G E,m]
 · rw [Ax z]at h⊢
   have hg:∀r,prQ (Ej rs c) q r=prQ rs q r:=fun r=>by unfold prQ;rw [gQ U z]
   have lv:prQ (Ej rs c) q=prQ rs q:=funext hg;rw [lv];have o8:c.t=q.tb:=by
    rcases o9 with g|g
    · unfold U4 at g
      rw [Wa]at g;rcases g with g|g
      · obtain ⟨y,hy⟩:=cT.1 g
        obtain ⟨e,_,hi⟩:=PK hy;rw [e]at hi;exact (I2 hi).1
      · obtain ⟨y,hy⟩:=cT.1 g
        obtain ⟨e,_,hi⟩:=PK hy;rw [e]at hi;exact (I2 hi).1
    · exact absurd g z
   have cO:((Cm rs q).filterMap (prQ rs q)).filter (fun p=>!Gx c.k p)=((Cm rs q).filter fun x=>!Fy c x).filterMap (prQ rs q):=by
    rw [<-lP,<-lP,lO,lO];refine Tf fun r hr=>?_;have W:r.t=c.t:=((I2 ((Ov hq rs r).1 hr).2).1).trans o8.symm
    by_cases m:r.k=c.k
    · cases E:prQ rs q r with
      |none=>simp [Option.guard,Fy,W,m]
      |some p=>simp [Option.guard,Fy,W,m,Gx,(VO E).1]
    · cases E:prQ rs q r with
      |none=>simp [Option.guard,Fy,W,m,E]
      |some p=>simp [Option.guard,Fy,W,m,Gx,(VO E).1,E]
   rw [cO]at h⊢;have ek:=Sq hq I U
   rw [<-ek];unfold Cv;cases ha:afQ q c with
   |none=>rfl
   |some y=>
    rw [ha]at h;simp only [ha]at h⊢;have hm:mQ q (some y)=Bh y q.bq:=rfl
    rw [hm]at h⊢;have hL:((Cm rs q).filter fun x=>!Fy c x).Pairwise (leV q.cl.toNat):=(F9 I _ _ _ _).sublist lz
    obtain ⟨A,B,e1,e2,hA,hB⟩:=Vr hq hL y;rw [e2];cases hfi:((Cm rs q).filterMap (prQ rs q)).findIdx? (EW (Bh y q.bq))with
    |none=>
     have hi:Gu (EW (Bh y q.bq)) ((Cm rs q).filterMap (prQ rs q))=-1:=by unfold Gu;rw [hfi];rfl
     rw [hi,B2 AH]at h⊢;rw [HB,LL]at h;obtain ⟨b,hb⟩:=cT.1 h.1;obtain ⟨eb,gm,l8⟩:=PK hb;have g:=h.2
     rw [hb]at g;have l9:b∈Cm rs q:=by
      refine (Ov hq rs b).2 ⟨?_,l8⟩;obtain ⟨r,hr,hi,_,he⟩:=KC (U.1.trans gm);have hv:=U.2 (U.1.trans gm)
      rw [he]at hv;have:b=r:=by
       rw [eb];obtain ⟨t,k,v⟩:=r;obtain ⟨h5,h6⟩:=hi;simp only at h5 h6 hv;subst h5 h6 hv;rfl
      rw [this];exact hr
     have ax:prQ rs q b=none:=by
      cases E:prQ rs q b with
      |none=>rfl
      |some p=>
       have af:=Z2.1 hfi p (cW.2 ⟨b,l9,E⟩);have kz:=(GU I _ _).1 (VO E).2
       unfold EW at af;rw [Rg]at af;exact absurd (kz.2.2.trans g) af
     have bf:prQ rs q y=none:=by
      unfold prQ at ax⊢;rw [show Bh y q.bq=Bh b q.bq from g.symm];cases E:Dv q (JL rs q.ot) (Bh b q.bq)with
      |none=>rfl
      |some x=>rw [E]at ax;cases ax
     rw [e1,fm,fm,fm];simp [bf]
    |some i=>
     obtain ⟨h1,h2,h3⟩:=Sp.1 hfi;have hi:Gu (EW (Bh y q.bq)) ((Cm rs q).filterMap (prQ rs q))=(i:Int):=by unfold Gu;rw [hfi];rfl
     rw [hi,Ax A0]at h⊢;rw [S1,Nd,Bk h1,fy];obtain ⟨r,hr,E⟩:=cW.1 (mj h1);generalize ((Cm rs q).filterMap (prQ rs q))[i]=p at h2 E;have h4:=(GU I _ _).1 (VO E).2
     unfold EW at h2;rw [LL]at h2;have bf:prQ rs q y=some ⟨y,p.r⟩:=by
      unfold prQ;rw [(GU I (Bh y q.bq) p.r).2 ⟨h4.1,h4.2.1,h2⟩];rfl
     rw [e1,fm,rP];· simp [bf]
     · intro x hx
       obtain ⟨r9,cu,bn⟩:=cW.1 hx;rw [(VO bn).1];exact hA r9 cu
     · intro x hx
       obtain ⟨r9,cu,bn⟩:=cW.1 hx;rw [(VO bn).1];exact hB r9 cu
theorem dP(z:BH q)(E:BP rs)(m:Gy rs c)(G:Dc q c=true)(h:(CF q c (EI rs q)).2=true):(CF q c (EI rs q)).1=EI (Ej rs c) q:=by
 by_cases g:q.kd=7
 · exact YY z E m g G h
 · exact YZ z E m g G h
theorem jQ(z:BH q)(E:BP rs)(m:Gy rs c)(g:c.ok)(h:(Ch q c (EI rs q)).2=true):(Ch q c (EI rs q)).1=EI (Ej rs c) q:=by
 unfold Ch at h⊢;cases ht:DZ q c with
 |false=>
  rw [Ax AH];unfold DZ at ht;rw [Cp g,M1]at ht;exact (rf z m ht).symm
 |true=>
  rw [ht,B2 rfl]at h;rw [B2 rfl];unfold DZ at ht;rw [HB]at ht;split at h
  · rename_i h9
    rw [B2 h9];exact dP z E m ht.2 h9
  · cases h
theorem Uw{q:QM}(E:BH q){rs:List AV}{cs:List Chg}(G:BP rs)(m:wU cs)(z:∀c∈cs,Gy rs c)(g:∀c∈cs,c.ok):∀i,i<=cs.length->∀r,J6 q (EI rs q) (cs.take i)=some r->r=EI (Du rs (cs.take i)) q
 |0,_,r,h=>by
  rw [Hh]at h⊢;injection h with h
  exact h.symm
 |i+1,hi,r,h=>by
  obtain ⟨c,hc⟩:∃c,cs[i]?=some c:=⟨_,Bk A0⟩;obtain ⟨I,h2⟩:=LH G m z i A0;cases hr:J6 q (EI rs q) (cs.take i)with
  |none=>
   have:=Q4 (cs:=cs.take (i+1)) (k:=i) (q:=q) (r:=EI rs q) (by rw [Wc,OR A0];exact hr);rw [this]at h;cases h
  |some rk=>
   have e:=Uw E G m z g i A0 rk hr;rw [Ko hr hc,e]at h;split at h
   · rename_i h9
     injection h with h
     rw [<-h,Gi rs cs i c hc];exact jQ E I (h2 i c (B4 _) hc) (g c (Fm hc)) h9
   · cases h
theorem nu(g:BH q){p rp:Int}{cs:List Chg}(z:BP rs)(h:Ns rs p rp cs){r:CB}(m:J6 q (EI rs q) cs=some r):r=EI (Du rs cs) q:=by
 have:=Uw g z (U2 h.ok.ord) h.fit (fun c hc=>by obtain ⟨i,hi⟩:=JT hc;exact h.ok.all i c hi) cs.length (B4 _) r (by rw [HJ];exact m);rwa [HJ]at this
def Pw(q:QM)(x:Bz):Bool:=x.cs.any (DZ q)
structure tO(q:QM)(l:List Bz)(base k:Nat)(s:Int):Prop where
 le:(base:Int)<=s/\s<=((base+k:Nat):Int)
 at_:s≠(base:Int)->∃(j:Nat) (x:Bz),(j:Int)+1=s/\l[j]?=some x/\Pw q x=true
 no:∀(j:Nat) (x:Bz),s<=(j:Int)->j<base+k->l[j]?=some x->Pw q x=false
theorem Uv{q:QM}(O:BH q){l:List Bz}(G:Dy l){base:Nat}(hb:base<=l.length):∀k,base+k<=l.length->∀st,II q (base:Int) 0 (EI (Bq (l.take base)) q,(base:Int)) ((l.drop base).take k)=some st->st.1=EI (Bq (l.take (base+k))) q/\tO q l base k st.2
 |0,_,st,h=>by
  rw [Hh]at h;injection h with h
  subst h;exact ⟨V,⟨by simp only;omega,fun h=>absurd V h,fun j x z h2=>by simp only at z;omega⟩⟩
 |k+1,hk,st,h=>by
  obtain ⟨x,hx⟩:∃x,l[base+k]?=some x:=⟨_,Bk A0⟩;have I:(l.drop base)[k]?=some x:=by rw [Ly];exact hx
  obtain ⟨K,_⟩:=G _ x hx;have hp:x.p=((base+k:Nat):Int)+1:=K.pos
  cases hr:II q (base:Int) 0 (EI (Bq (l.take base)) q,(base:Int)) ((l.drop base).take k)with
  |none=>
   have:=Kn (l:=(l.drop base).take (k+1)) (k:=k) (q:=q) (base:=(base:Int)) (st:=(EI (Bq (l.take base)) q,(base:Int))) (by rw [Wc,OR A0];exact hr);rw [this]at h;cases h
  |some sk=>
   obtain ⟨m,e2⟩:=Uv O G hb k A0 sk hr;rw [Gg hr I]at h;split at h
   · rename_i h9
     injection h with h
     subst h;have E:=RG h9.1
     have z:=(G.rows (base+k) A0).1;rw [m]at E;refine ⟨?_,?_⟩
     · have:=nu O z K E.1
       rw [show base+(k+1)=base+k+1 by omega,Bt hx,FZ,<-this,m]
     · have hT:(CL q sk.1 x.cs).2.1=Pw q x:=by rw [m];exact E.2
       simp only [hT];obtain ⟨⟨a1,U⟩,W,X⟩:=e2;cases ht:Pw q x with
       |true=>
        simp only [Mp];refine ⟨by omega,fun _=>⟨base+k,x,hp.symm,hx,ht⟩,fun j y J h6=>by omega⟩
       |false=>
        simp only [PC,LN];refine ⟨by push_cast at U⊢;omega,W,fun j y J h6 g=>?_⟩;rcases FA j (base+k)with h8|h8
        · exact X j y J h8 g
        · obtain rfl:j=base+k:=by omega
          rw [hx]at g;injection g with g
          rw [<-g];exact ht
   · cases h
theorem YX(g:1<=q.kd/\q.kd<=4)(c:Chg)(r:CB):(Ch q c r).2=true:=by
 have:(CF q c r).2=true:=by
  unfold CF;split;· rfl
  · split
    · rfl
    · rw [B2 A0]
 unfold Ch;rw [B2 this];split<;>rfl
theorem SH{q:QM}(g:1<=q.kd/\q.kd<=4):∀(cs:List Chg) (r:CB),∃m,J6 q r cs=some m
 |[],r=>⟨r,rfl⟩
 |c::cs,r=>by
  unfold J6;rw [B2 (YX g c r)];exact SH g cs _
theorem SF{q:QM}(m:1<=q.kd/\q.kd<=4){base:Int}:∀(l:List Bz) (i:Nat) (st:CB×Int),(∀(k:Nat) (x:Bz),l[k]?=some x->base<=9223372036854775806 -((i+k:Nat):Int)/\x.p=base+1+((i+k:Nat):Int))->∃g,II q base i st l=some g
 |[],i,st,_=>⟨st,rfl⟩
 |x::l,i,st,h=>by
  have h0:=h 0 x rfl;rw [RT]at h0;obtain ⟨E,z⟩:=SH m x.cs st.1;unfold II;rw [B2 ⟨by unfold CL;rw [z],h0.1,h0.2⟩];exact SF m l (i+1) _ fun k y hy=>by
   have:=h (k+1) y hy;rwa [show i+(k+1)=i+1+k by omega]at this
theorem xq(q:QM)(m:BH q):BB prog 89 #[.agg q.Ax4] [] (.tuple #[I4 q.tb,I4 q.cl,I4 q.lo,I4 q.hi]):=by
 refine Se func89 ntmps89 [0] ?_;intro u R;refine A2<|Ze (Bx q.Ax4)<|AE fun bq=>Sk 3 V<|CT Y<|A2<|Zo Wh (A7 (cs:=#[_,_,_,_,_,_,_]) DE CN Y BW B5)<|Xr [_] Y call31 Y V (Ld q)<|Zv (Bp Y)<|A6<|Af Y (fun g=>?_) (fun g=>?_);·
  exfalso;simp [m]at g
 refine B3<|Zq<|Au (n:=12) (0::1::0::4::0::16::0::64::3::271::831::2047::[]) 0 AG AG V<|A1 0 V (AL (off:=1) CH V rfl A4 Y)<|B6 1 V A5 Y<|A1 2 V (AL (off:=2) CH V rfl A4 Y)<|B6 3 V A5 Y<|A1 4 V (AL (off:=3) CH V rfl A4 Y)<|B6 5 V A5 Y<|A1 6 V (AL (off:=4) CH V rfl A4 Y)<|B6 7 V A5 Y<|A1 8 V (Aq Y)<|A1 9 V (Aq Y)<|A1 10 V (Aq Y)<|A1 11 V (Aq Y)<|Am<|Zn [2,3,4,5] ?_;refine Zx<|AC<|vD V results89 Y Y Y Y (by exact ⟨V,V⟩)
theorem yE(q:QM)(g:BH q):BB prog 34 #[.agg q.Ax4] [] (.agg #[I4 q.tb,I4 q.cl,I4 q.lo,I4 q.hi]):=by
 refine Se func34 ntmps34 [0] ?_;intro u R;refine A2<|Ze (Bx q.Ax4)<|AE fun bq=>Ze (Al er #[_,_,_,_])<|AE fun m=>A6<|A2<|Zo Wh (A7 (cs:=#[_,_,_,_,_,_,_]) DE CN Y BW B5)<|Xr [_] Y call89 Y V (xq q g)<|Sk 5 V<|Zh 0 OS V rfl A4 Y<|Xe (Zs A4 Y Y V (hi:=by decide))<|Zh 1 OS V rfl A4 Y<|Xe (Zs A4 Y Y V (hi:=by(simp;done)))<|Zh 2 OS V rfl A4 Y<|Xe (Zs A4 Y Y V (hi:=by(simp;done)))<|Zh 3 OS V rfl A4 Y<|Xe (Zs A4 Y Y V (hi:=by(simp;done)))<|Z0<|Zn [2] ?_;refine BT<|Zo Wh (A7 (cs:=#[_,_,_,_]) isAgg83 ao Y BW (AP rfl))<|Xe (Ao ao Y Y Ft Wu (Bj rfl) DO BW (by exact Aw _))<|A6<|AC<|Df rfl results34 Y Wh (Ai isAgg83 ao Wn (AP rfl)) fY
theorem Nh{P:Program}{env:Env}{d:Option Nat}{ty:An}{pos:String}{af:Array Edge}{g:Option (Nat×Bool)}{x:Operand}{m at_:An}{ok:Bool}{r:A3}(hx:∀a,ev a env x=v)(z:∀w:AD,(Instr.typeAssert v m at_ ok).run P w= .ok r w):OpP P ⟨d,.typeAssert x m at_ ok,ty,pos,af,g⟩ env [] r:=fun a w _=>by
 simp [execOp,hx a,z w]
theorem yS(w:AD):(Instr.typeAssert .nilIface 20 167 true).run prog w= .ok (.tuple #[.nilIface,.bool false]) w:=by kernel_rfl
theorem Ez{u w:AD}{H:Hp}{b:Nat}{o:Obj}(h:Has b o H)(g:Sat u H w):w.heap[b]?=some o:=g.get _ h.mem
theorem lY(m:BH q)(g:q.kd≠7):JF q (D8 rs q.tb q.cl.toNat q.lo q.hi) []=EI rs q:=by
 rw [Nl m];unfold EI Cc Cm;split;· rfl
 · split
   · rfl
   · split
     · rfl
     · split
       · rfl
       · first
         |rfl
         |(split
           · rename_i h;exact absurd h g
           · rfl)
theorem xy(z:BP rs)(hn:rs.length<=2000)(g:∀r∈rs,r.ok)(q:QM)(E:BH q):Eb (EC rs q.tb.toNat q.cl.toNat q.lo q.hi)/\Ci (EC rs q.tb.toNat q.cl.toNat q.lo q.hi)=D8 rs q.tb q.cl.toNat q.lo q.hi:=by
 obtain ⟨G,h2,m,_⟩:=id E;refine ⟨Lx z hn g q.tb.toNat q.cl.toNat A0 A0 q.lo q.hi m.2.1,?_⟩;have h:=SN z hn g q.tb.toNat q.cl.toNat A0 A0 q.lo q.hi m.2.1
 rwa [show((q.tb.toNat:Nat):Int)=q.tb by omega]at h
theorem oZ(g:BH q):(EC rs q.tb.toNat q.cl.toNat q.lo q.hi).tb=q.tb/\(EC rs q.tb.toNat q.cl.toNat q.lo q.hi).cl=q.cl/\(EC rs q.tb.toNat q.cl.toNat q.lo q.hi).lo=q.lo/\(EC rs q.tb.toNat q.cl.toNat q.lo q.hi).hi=q.hi:=by
 obtain ⟨m,h2,_⟩:=id g;exact ⟨show((q.tb.toNat:Nat):Int)=q.tb by omega,show((q.cl.toNat:Nat):Int)=q.cl by omega,V,V⟩
theorem LM:BB prog 53 #[.bool true] [] undef:=by
 refine Se func53 ntmps53 [0] ?_;intro u R;refine B7 Y<|Zv (CR Y)<|A6<|Af Y (fun g=>by cases g)<|fun g=>AB<|Gn V results53 (by exact ⟨V,V⟩)
theorem j6(G:A3):LV prog 52 #[G] .returning .returning [] (fun H'=>H'=[]):=by
 refine Qi (env1:=[(3,.bool false),(2,.nilIface),(8,.bool false),(7,.nilIface),(4,.tuple #[.nilIface,.bool false]),(6,.tuple #[.nilIface,.bool false]),(5,.nilIface),(0,G)]) func52 V ntmps52 V results52 ?hrec_1 ?hwalk_1
 case hrec_1=>
  intro u R c cs Q m E;show Xd _ _ [0,1,2,3,4,5,6] _ _ _ _ _
  have g:({c with mode:= .returning}:Frame)=c:=by cases c;simp only at m;subst m;rfl
  rw [g]at E;refine dh V (by simp [recoverD,m]) V ?_;refine JP V (Nh Y yS) V ?_;refine JP V (AA Y) V ?_;refine JP V (Bn Y V) V ?_;refine JP V (Bn Y V) V ?_;refine JP V (Aq Y) V ?_;refine JP V (Aq Y) V ?_;intro a w I;exact E a w I
 intro u R;refine Zb [0,2,3] ?_;refine B7 Y<|Zm Y<|Ae (t:=10) Y V (fun z=>by cases z)<|fun z=>sL<|sE<|H3 Y Y<|A6<|DY Y<|AB<|Gn V results52 B5
theorem nU(g:Nat)(z:A3):LV prog 51 #[I5 g,z] .returning .returning [[(g,.cells #[.bool true] 4 (0,0))]] (fun H'=>H'=[[(g,.cells #[.bool true] 4 (0,0))]]):=by
 refine R4 func51 V ntmps51 V ?_;intro u R;refine Zb [0,1] ?_;refine A2<|Zl Fc Y ?_;refine Zv (CR Y)<|A6<|Af Y (fun m=>by cases m)<|fun m=>AB<|Gn V results51 B5
structure RPZ where
 x:RP
 qr:C1
 cr:Nat
 qp:C1
 cp:Nat
 qt:C1
 ct:Nat
def ET(z:RPZ):List A3:=[I4 z.x.tb,I4 z.x.cl,I4 z.x.lo,I4 z.x.hi,I4 z.x.ct,I4 z.x.fi,.slice z.qr z.x.rows.length z.cr,.slice z.qp z.x.paths.length z.cp,.slice z.qt z.x.roots.length z.ct]
def RPZ.ok(M:List AR)(z:RPZ):Prop:=CZ M (.slice z.qr z.x.rows.length z.cr) z.x.rows/\GG M (.slice z.qp z.x.paths.length z.cp) z.x.paths/\DU M (.slice z.qt z.x.roots.length z.ct) z.x.roots
theorem ny(h:LQ M v x):∃z:RPZ,z.x=x/\z.ok M/\v= .agg #[I4 z.x.tb,I4 z.x.cl,I4 z.x.lo,I4 z.x.hi,I4 z.x.ct,I4 z.x.fi,.slice z.qr z.x.rows.length z.cr,.slice z.qp z.x.paths.length z.cp,.slice z.qt z.x.roots.length z.ct]:=by
 obtain ⟨K,J,O,rfl,g,h2,m⟩:=h;obtain ⟨qr,cr,rfl,E⟩:=id g;obtain ⟨qp,cp,rfl,G⟩:=id h2;obtain ⟨qt,ct,rfl,I⟩:=id m;exact ⟨⟨x,qr,cr,qp,cp,qt,ct⟩,V,⟨g,h2,m⟩,V⟩
variable{M':List AR}
theorem RPZ.ok.mono{z:RPZ}(h:z.ok M)(g:∀c∈M,c∈M'):z.ok M':=⟨h.1.mono g,h.2.1.mono g,h.2.2.mono g⟩
theorem RPZ.ok.rp{z:RPZ}(h:z.ok M):LQ M (.agg #[I4 z.x.tb,I4 z.x.cl,I4 z.x.lo,I4 z.x.hi,I4 z.x.ct,I4 z.x.fi,.slice z.qr z.x.rows.length z.cr,.slice z.qp z.x.paths.length z.cp,.slice z.qt z.x.roots.length z.ct]) z.x:=⟨_,_,_,rfl,h⟩
def ZsU(M:List AR)(v:A3)(Z:List RPZ):Prop:=∃p cap,v= .slice p Z.length cap/\(Z.length<=maxLen/\Z.length<=cap)/\∀(i:Nat) (z:RPZ),Z[i]?=some z->z.ok M/\∃g off cur T zz,p=some ⟨g,off,none⟩/\(g,Obj.cells cur T zz)∈M/\off+i*9+9<=cur.size/\cur.extract (off+i*9) (off+i*9+9)=#[I4 z.x.tb,I4 z.x.cl,I4 z.x.lo,I4 z.x.hi,I4 z.x.ct,I4 z.x.fi,.slice z.qr z.x.rows.length z.cr,.slice z.qp z.x.paths.length z.cp,.slice z.qt z.x.roots.length z.ct]
def Et(M:List AR)(v:A3)(L:List RP):Prop:=∃Z,ZsU M v Z/\Z.map RPZ.x=L
variable{Z:List RPZ}
theorem ZsU.mono(h:ZsU M v Z)(m:∀c∈M,c∈M'):ZsU M' v Z:=by
 obtain ⟨p,cap,e,K,J⟩:=h;refine ⟨p,cap,e,K,fun i z hz=>?_⟩;obtain ⟨h2,g,off,cur,T,zz,E,G,I⟩:=J i z hz;exact ⟨h2.mono m,g,off,cur,T,zz,E,m _ G,I⟩
variable{L:List RP}
theorem Et.mono(h:Et M v L)(m:∀c∈M,c∈M'):Et M' v L:=by
 obtain ⟨Z,g,h2⟩:=h;exact ⟨Z,g.mono m,h2⟩
theorem gB{s E:List AR}(h:BS 9 49 v Z.length (Z.flatMap ET) s)(hn:Z.length<=maxLen)(I:∀z∈Z,z.ok E):ZsU (s++E) v Z:=by
 obtain ⟨b,cap,rfl⟩:=h.form;refine ⟨b,cap,V,⟨hn,Ew h⟩,fun i z hz=>⟨(I z (Fm hz)).mono (fun c hc=>G2 _ hc),?_⟩⟩;obtain ⟨g,G,cur,zz,hv,rfl,J,m⟩:=J7 h i (D3.1 hz).1;injection hv with hv1 hv2 hv3
 refine ⟨g,0,cur,49,zz,hv1,HE _ (HA.2 V),by omega,?_⟩;rw [Dd];apply L5.1;rw [m];exact Hg _ 9 (fun _=>rfl) Z i z hz
theorem SL{s g:List AR}(h:BS 9 49 v Z.length (Z.flatMap ET) s)(hn:Z.length<=maxLen)(m:∀z∈Z,z.ok g):Et (s++g) v (Z.map RPZ.x):=⟨Z,gB h hn m,rfl⟩
theorem Et.form(h:Et M v L):∃p cap,v= .slice p L.length cap/\L.length<=maxLen/\L.length<=cap:=by
 obtain ⟨Z,⟨p,cap,e,g,_⟩,rfl⟩:=h;rw [C2];exact ⟨p,cap,e,g⟩
theorem Et.at{M:List AR}{p:C1}{n cap:Nat}{L:List RP}(h:Et M (.slice p n cap) L){i:Nat}{x:RP}(hx:L[i]?=some x):∃z:RPZ,z.x=x/\z.ok M/\∃g off cur T zz,p=some ⟨g,off,none⟩/\(g,Obj.cells cur T zz)∈M/\off+i*9+9<=cur.size/\cur.extract (off+i*9) (off+i*9+9)=#[I4 z.x.tb,I4 z.x.cl,I4 z.x.lo,I4 z.x.hi,I4 z.x.ct,I4 z.x.fi,.slice z.qr z.x.rows.length z.cr,.slice z.qp z.x.paths.length z.cp,.slice z.qt z.x.roots.length z.ct]:=by
 obtain ⟨Z,⟨G,m,e,_,E⟩,rfl⟩:=h;injection e with e1 e2 e3
 subst e1;rw [HL]at hx;cases hz:Z[i]?with
 |none=>rw [hz]at hx;cases hx
 |some z=>
  rw [hz]at hx;injection hx with hx
  exact ⟨z,hx,E i z hz⟩
theorem Et.tail{p:C1}{n cap:Nat}(h:Et M (.slice p n cap) (x::L)):Et M (.slice (EJ p 1 cap 9) (n -1) (cap -1)) L:=by
 obtain ⟨Z,⟨W,J,e,⟨I,m⟩,G⟩,E⟩:=h;injection e with e1 e2 e3
 subst e1 e2 e3
 match Z,E,I,m,G with
 |z::Z,E,I,m,G=>
  injection E with hZ1 hZ2
  rw [GB]at I m;refine ⟨Z,⟨_,_,by rw [GB,S5],⟨by omega,by omega⟩,fun i y hy=>?_⟩,hZ2⟩;obtain ⟨h2,g,off,cur,T,zz,rfl,K,U,O⟩:=G (i+1) y (by simpa using hy);have hi:=(D3.1 hy).1
  refine ⟨h2,g,off+1*9,cur,T,zz,?_,K,by omega,by rw [show off+1*9+i*9=off+(i+1)*9 by omega];exact O⟩;unfold EJ;rw [Ax A0,N5,Cq]
def IL(q:QM)(r:AV):Int×Int×Int×Int:=(q.ot,0,Bh r q.bq,Bh r q.bq)
def JS(q:QM):Int×Int×Int×Int:=(q.tb,q.cl,q.lo,q.hi)
def RP.scan(x:RP):Int×Int×Int×Int:=(x.tb,x.cl,x.lo,x.hi)
noncomputable def Gz(s:Int×Int×Int×Int):List RP->Option (List AV×List RP)
 |[]=>none
 |x::l=>if x.scan=s/\Eb x then some (Ci x,l)else none
noncomputable def DR(q:QM):List AV->List RP->Option (List AV×List RP)
 |[],l=>some ([],l)
 |r::rs,l=>(Gz (IL q r) l).bind fun a=>(DR q rs a.2).map fun b=>(a.1++b.1,b.2)
noncomputable def Bu(q:QM)(L:List RP):Option CB:=
 if BH q then(Gz (JS q) L).bind fun a=>if a.1.length<=100 then(if q.kd=7 then DR q a.1 a.2 else some ([],a.2)).bind fun b=>if b.2=[]then some (Cc q a.1 b.1)else none else none else none
theorem K5{s:Int×Int×Int×Int}{a:List AV×List RP}(h:Gz s L=some a):∃x,L=x::a.2/\x.scan=s/\Eb x/\a.1=Ci x:=by
 unfold Gz at h;split at h;· cases h
 · split at h
   · rename_i x l h9
     injection h with h
     subst h;exact ⟨x,V,h9.1,h9.2,V⟩
   · cases h
theorem Gh{s:Int×Int×Int×Int}{l:List RP}(g:x.scan=s)(h2:Eb x):Gz s (x::l)=some (Ci x,l):=B2 ⟨g,h2⟩
theorem KS{l:List RP}{b:List AV×List RP}(h:DR q (r::rs) l=some b):∃a c,Gz (IL q r) l=some a/\DR q rs a.2=some c/\b=(a.1++c.1,c.2):=by
 unfold DR at h;cases ha:Gz (IL q r) l with
 |none=>rw [ha]at h;cases h
 |some a=>
  rw [ha,I0]at h;cases hc:DR q rs a.2 with
  |none=>rw [hc]at h;cases h
  |some c=>rw [hc]at h;injection h with h;exact ⟨a,c,rfl,hc,h.symm⟩
theorem La{q:QM}:∀(rows:List AV) (i:Nat) (L:List RP) (b:List AV×List RP),i<=rows.length->DR q rows L=some b->∃o g,DR q (rows.take i) L=some (o,g)/\∃m,DR q (rows.drop i) g=some (m,b.2)/\b.1=o++m
 |rows,0,L,b,_,h=>⟨[],L,rfl,b.1,by rw [RR];exact h,rfl⟩
 |r::rows,i+1,L,b,hi,h=>by
  obtain ⟨a,c,z,h2,rfl⟩:=KS h;obtain ⟨o,g,E,m,G,I⟩:=La rows i a.2 c (by simpa using hi) h2;refine ⟨a.1++o,g,?_,m,by rw [List.drop_succ_cons];exact G,by rw [I,G0]⟩;rw [List.take_succ_cons];unfold DR;rw [z,I0,E];rfl
theorem MR{q:QM}:∀(rows:List AV) (i:Nat) (r:AV) (L l':List RP) (o:List AV) (a:List AV×List RP),rows[i]?=some r->DR q (rows.take i) L=some (o,l')->Gz (IL q r) l'=some a->DR q (rows.take (i+1)) L=some (o++a.1,a.2)
 |r9::rows,0,r,L,l',o,a,hr,h,ha=>by
  injection hr with hr
  subst hr;injection h with h
  injection h with g h2
  subst g h2;show DR q [r9] L=_
  unfold DR;rw [ha,I0];show some (a.1++[],a.2)=some ([]++a.1,a.2)
  rw [HT,ON]
 |r9::rows,i+1,r,L,l',o,a,hr,h,ha=>by
  rw [List.take_succ_cons]at h⊢;obtain ⟨E,z,g,h2,m⟩:=KS h;injection m with m h4
  have:=MR rows i r E.2 z.2 z.1 a (by simpa using hr) h2 (by rw [<-h4];exact ha);unfold DR;rw [g,I0,this,m,G0];rfl
theorem Qh{r:CB}(h:Bu q L=some r):∃x g,L=x::g/\BH q/\x.scan=JS q/\Eb x/\(Ci x).length<=100/\((q.kd≠7/\g=[]/\r=Cc q (Ci x) [])\/(q.kd=7/\∃o,DR q (Ci x) g=some (o,[])/\r=Cc q (Ci x) o)):=by
 unfold Bu at h;split at h
 · rename_i hq
   cases ha:Gz (JS q) L with
   |none=>rw [ha]at h;cases h
   |some a=>
    obtain ⟨x,m,h2,z,E⟩:=K5 ha;rw [ha,I0]at h;split at h
    · rename_i h5
      rw [E]at h5 h;refine ⟨x,a.2,m,hq,h2,z,h5,?_⟩;split at h
      · rename_i h7
        cases hb:DR q (Ci x) a.2 with
        |none=>rw [hb]at h;cases h
        |some b=>
         rw [hb,I0]at h;split at h
         · rename_i h8
           injection h with h
           exact .inr ⟨h7,b.1,by rw [<-h8],h.symm⟩
         · cases h
      · rename_i h7
        rw [I0]at h;split at h
        · rename_i h8
          injection h with h
          exact .inl ⟨h7,h8,h.symm⟩
        · cases h
    · cases h
 · cases h
def EQ(rs:List AV)(q:QM):List RP:=EC rs q.tb.toNat q.cl.toNat q.lo q.hi::(if q.kd=7 then(Cm rs q).map fun r=>EC rs q.ot.toNat 0 (Bh r q.bq) (Bh r q.bq)else [])
theorem Sa{rs:List AV}(m:BP rs)(hn:rs.length<=2000)(g:∀r∈rs,r.ok){q:QM}(G:0<=q.ot/\q.ot<=3):∀l:List AV,DR q l (l.map fun r=>EC rs q.ot.toNat 0 (Bh r q.bq) (Bh r q.bq))=some (l.flatMap fun r=>D8 rs q.ot 0 (Bh r q.bq) (Bh r q.bq),[])
 |[]=>rfl
 |r::l=>by
  have e:((q.ot.toNat:Nat):Int)=q.ot:=by omega
  have z:=Lx m hn g q.ot.toNat 0 A0 A0 (Bh r q.bq) (Bh r q.bq) (db _);have h2:=SN m hn g q.ot.toNat 0 A0 A0 (Bh r q.bq) (Bh r q.bq) (db _)
  have E:=Sa m hn g G l;rw [e]at h2;unfold DR;rw [L3,Gh (by show(((q.ot.toNat:Nat):Int),((0:Nat):Int),_,_)=(_,_,_,_);rw [e];rfl) z,I0];simp only [E,h2,N5,L0]
theorem ll{f:AV->Bool}{g:AV->List AV}(z:∀a b,f a=true->f b=true->(∃r,a∈g r)->(∃r,b∈g r)->a=b):∀l:List AV,(∃r∈l,y∈g r)->f y=true->(l.flatMap g).find? f=some y:=fun l ⟨r,E,hy⟩ h=>by
 cases hfi:(l.flatMap g).find? f with
 |none=>exact absurd h (by simpa using eS.1 hfi y (cE.2 ⟨r,E,hy⟩))
 |some x=>
  have m:=kO (p:=f) hfi;obtain ⟨G,_,hx⟩:=cE.1 (iS hfi);rw [z x y m h ⟨G,hx⟩ ⟨r,hy⟩]
theorem GL(E:BP rs)(hn:rs.length<=2000)(I:∀r∈rs,r.ok)(m:BH q)(hl:(Cm rs q).length<=100):Bu q (EQ rs q)=some (EI rs q):=by
 have hk:=m.2.2.2;have hc:=m.2.1
 have ht:=m.1;obtain ⟨K,h2⟩:=xy E hn I q m;have J:=oZ (rs:=rs) m
 have X:(EC rs q.tb.toNat q.cl.toNat q.lo q.hi).scan=JS q:=by unfold RP.scan JS;rw [J.1,J.2.1,J.2.2.1,J.2.2.2]
 unfold Bu EQ;rw [B2 m,Gh X K,I0];simp only [h2];rw [show D8 rs q.tb q.cl.toNat q.lo q.hi=Cm rs q from rfl,B2 hl];by_cases z:q.kd=7
 · rw [B2 z,B2 z,Sa E hn I A0,I0,B2 rfl]
   unfold EI Cc;simp only [Ax (show¬q.kd=3 by omega),Ax (show¬q.kd=4 by omega),Ax (show¬q.kd=5 by omega),Ax (show¬q.kd=6 by omega),B2 z];congr 2;unfold IR;have g:∀k x,x∈D8 rs q.ot 0 k k↔x∈rs/\x.t=q.ot/\x.k=k:=fun k x=>by
    rw [(Ex rs q.ot 0 k k).mem_iff,PA];unfold inR Dz;rw [LL,B2 rfl];constructor;· rintro ⟨a,b,c,d⟩;exact ⟨a,b,by omega⟩
    · rintro ⟨a,b,c⟩;exact ⟨a,b,by omega,by omega⟩
   have W:∀r∈Cm rs q,H6 q ((Cm rs q).flatMap fun r=>D8 rs q.ot 0 (Bh r q.bq) (Bh r q.bq)) r=H6 q (JL rs q.ot) r:=fun r hr=>by
    unfold H6
    suffices e:Dv q ((Cm rs q).flatMap fun r=>D8 rs q.ot 0 (Bh r q.bq) (Bh r q.bq)) (Bh r q.bq)=Dv q (JL rs q.ot) (Bh r q.bq) by rw [e]
    cases hp:Dv q (JL rs q.ot) (Bh r q.bq)with
    |none=>
     unfold Dv;refine eS.2 fun x hx G=>?_;obtain ⟨r',_,hx⟩:=cE.1 hx;have O:=(g _ x).1 hx
     have U:x.t=q.ot/\x.k=Bh r q.bq:=by simpa using G
     have:=(GU E (q:=q) (Bh r q.bq) x).2 ⟨O.1,U⟩;rw [hp]at this;cases this
    |some x=>
     have G:=(GU E (q:=q) (Bh r q.bq) x).1 hp;unfold Dv;refine ll (fun a b ha hb ⟨r1,K⟩ ⟨r2,h2⟩=>?_) _ ⟨r,hr,(g _ x).2 ⟨G.1,G.2⟩⟩ (Cp G.2);have a1:=(g _ a).1 K
     have b1:=(g _ b).1 h2;have a2:a.t=q.ot/\a.k=Bh r q.bq:=by simpa using ha
     have b2:b.t=q.ot/\b.k=Bh r q.bq:=by simpa using hb
     have a3:=(GU E (q:=q) (Bh r q.bq) a).2 ⟨a1.1,a2⟩;have b3:=(GU E (q:=q) (Bh r q.bq) b).2 ⟨b1.1,b2⟩
     rw [a3]at b3;injection b3
   have:∀l:List AV,(∀r∈l,H6 q ((Cm rs q).flatMap fun r=>D8 rs q.ot 0 (Bh r q.bq) (Bh r q.bq)) r=H6 q (JL rs q.ot) r)->l.flatMap (H6 q ((Cm rs q).flatMap fun r=>D8 rs q.ot 0 (Bh r q.bq) (Bh r q.bq)))=l.flatMap (H6 q (JL rs q.ot)):=fun l=>by
    induction l with
    |nil=>intro _;rfl
    |cons r l ih=>intro h;rw [L0,L0,h r C4,ih fun x hx=>h x (by simp [hx])]
   exact this _ W
 · rw [Ax z,Ax z,I0,B2 rfl]
   rw [<-lY m z,Nl m];rfl
end Go.Proofs.YtljkoipiekbijaaGreatDoor
