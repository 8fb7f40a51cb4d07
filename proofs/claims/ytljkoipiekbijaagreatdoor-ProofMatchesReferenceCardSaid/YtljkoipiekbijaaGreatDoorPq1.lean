/- The references 5 and 7: Valid, Touches. -/
import Derived.Test.YtljkoipiekbijaaGreatDoorPr2
set_option linter.unusedVariables false
set_option linter.unusedSimpArgs false
namespace Go.Proofs.YtljkoipiekbijaaGreatDoor
open Go.Proofs.Tryz
open Go Go.RowKit Gw
set_option maxRecDepth 100000
attribute [local irreducible] Gw.At Gw.Nx Gw.Ops
theorem iY(q:QM)(c:Chg):(c.had&&inQ q c.before)=(bfQ q c).isSome:=by
 unfold bfQ IQ;cases hh:c.had with
 |false=>rfl
 |true=>
  rw [KE hh,M1];cases inQ q ⟨c.t,c.k,c.o⟩<;>rfl
theorem ZL(q:QM)(c:Chg):(c.has&&inQ q c.after)=(afQ q c).isSome:=by
 unfold afQ IQ;cases hh:c.has with
 |false=>rfl
 |true=>
  rw [Hl hh,M1];cases inQ q ⟨c.t,c.k,c.n⟩<;>rfl
theorem iP(q:QM)(c:Chg):(if(bfQ q c).isSome then Bh c.before q.bq else 0)=mQ q (bfQ q c):=by
 cases h:bfQ q c with
 |none=>rfl
 |some r=>
  unfold bfQ IQ at h;split at h
  · rename_i h9
    injection h with h
    rw [HB]at h9;rw [KE h9.1,h];rfl
  · cases h
theorem iQ(q:QM)(c:Chg):(if(afQ q c).isSome then Bh c.after q.bq else 0)=mQ q (afQ q c):=by
 cases h:afQ q c with
 |none=>rfl
 |some r=>
  unfold afQ IQ at h;split at h
  · rename_i h9
    injection h with h
    rw [HB]at h9;rw [Hl h9.1,h];rfl
  · cases h
variable{q:QM}{c:Chg}
theorem su(h:(afQ q c).isSome=true):afQ q c=some c.after:=by
 cases h9:afQ q c with
 |none=>rw [h9]at h;cases h
 |some r=>
  unfold afQ IQ at h9;split at h9
  · rename_i h8
    injection h9 with h9
    rw [HB]at h8;rw [Hl h8.1,h9]
  · cases h9
theorem Lb(r:AV){c:Int}(hc:0<=c/\c<=3):BB prog 40 #[.agg r.Ax3,I4 c] [] (I4 (Bh r c)):=by
 have h:=MS r c.toNat A0;have e:=LY r c.toNat A0
 rw [show((c.toNat:Nat):Int)=c by omega]at h e;rw [e];exact h
def ltS(sg a b:Int):Bool:=if sg<0 then decide (b<a)else decide (a<b)
theorem jE(h:BH q):0<=q.bq/\q.bq<=3:=by have:=h.2.2.2;omega
theorem Jm(n lo hi:Int):BB prog 92 #[I4 n,I4 lo,I4 hi] [] (.bool (decide (lo<=n/\n<=hi))):=by
 refine Se func92 ntmps92 [0,1,2] ?_;intro u R;refine A2<|AF Y<|A2<|Sk 2 V<|Zv (Fa Y Y)<|Zm Y<|AZ (t:=10) Y V (fun g=>?_) (fun g=>?_);focus
  refine Sk 2 V<|Yg (JB Y Y)<|Zv (Ay Y Y) ?_
 rotate_left
 focus
  refine Sk 4 V ?_
 all_goals
  refine AM Y<|AO V results92 Y (by exact ⟨by simp [g],V⟩)
set_option maxHeartbeats 1000000 in
theorem P8(q:QM):BB prog 37 #[.agg q.Ax4] [] (.bool (decide (BH q))):=by
 refine Se func37 ntmps37 [0] ?_;intro u R;refine A2<|Ze (Bx #[_,_,_,_,_,_,_])<|AE fun G=>CT Y<|A2<|Zh 1 CH V rfl A4 Y<|Zl A5 Y ?_;refine Zv (Dq Y Y)<|Zm Y<|AZ (t:=6) Y V (fun I=>?_) (fun I=>?_);focus
  refine Sk 20 V ?_
 rotate_left
 focus
  refine Yf 1 CH V rfl A4 Y<|Yl A5 Y ?_;refine Yg (Fa Y Y)<|Sk 2 V ?_;refine AZ (t:=11) Y V (fun J=>?_) (fun J=>?_);focus
   refine Sk 15 V ?_
  rotate_left
  focus
   refine Yf 2 CH V rfl A4 Y<|Yl A5 Y ?_;refine Yg (Dq Y Y)<|Sk 2 V ?_;refine AZ (t:=16) Y V (fun K=>?_) (fun K=>?_);focus
    refine Sk 10 V ?_
   rotate_left
   focus
    refine Yf 2 CH V rfl A4 Y<|Yl A5 Y ?_;refine Yg (Fa Y Y)<|Sk 2 V ?_;refine AZ (t:=21) Y V (fun O=>?_) (fun O=>?_);focus
     refine Sk 5 V ?_
    rotate_left
    focus
     refine Yf 3 CH V rfl A4 Y<|Yl A5 Y ?_;refine Yg (Dq Y Y)<|Sk 2 V ?_;refine AZ (t:=26) Y V (fun U=>?_) (fun U=>?_);rotate_left;focus
      refine Yf 4 CH V rfl A4 Y<|Yl A5 Y ?_;refine Yg (EE Y Y)<|Sk 2 V ?_;refine AZ (t:=31) Y V (fun W=>?_) (fun W=>?_);focus
       refine Sk 6 V<|Z0<|Zn [1,37] ?_;refine Zx<|BV Y ?_
      rotate_left
      focus
       refine Yf 3 CH V rfl A4 Y<|Yl A5 Y ?_;refine Yf 4 CH V rfl A4 Y<|Yl A5 Y ?_;refine Yg (EE Y Y)<|H3 Y Y<|Z0<|Zn [1,37] ?_;refine Zx<|Ad Y (fun X=>?_) (fun X=>?_);rotate_left;focus
        refine B3<|Zq<|A2<|Zh 0 CH V rfl A4 Y<|Zl A5 Y ?_;refine A6<|AQ<|A2<|Zv (Bd Y Y)<|AF Y<|Ad Y (fun k1=>?_) (fun k1=>?_);focus
         refine A2<|Zh 2 CH V rfl A4 Y<|Zl A5 Y ?_;refine Zv (Bd Y Y)<|Zm Y<|AZ (t:=45) Y V (fun G=>?_) (fun G=>?_);focus
          refine Yf 3 CH V rfl A4 Y<|Yl A5 Y ?_;refine Yf 4 CH V rfl A4 Y<|Yl A5 Y ?_;refine Yg (Bd Y Y)<|Sk 2 V ?_;refine AZ (t:=52) Y V (fun Z=>?_) (fun Z=>?_);focus
           refine Yf 3 CH V rfl A4 Y<|Yl A5 Y ?_;refine Xr [_,_,_] Y call92 Y V (Jm _ _ _) ?_;refine Sk 2 V ?_;refine AZ (t:=57) Y V (fun b3=>?_) (fun b3=>?_);focus
            refine Yf 5 CH V rfl A4 Y<|Yl A5 Y ?_;refine Yg (Bd Y Y)<|Sk 2 V ?_;refine AZ (t:=62) Y V (fun b4=>?_) (fun b4=>?_);refine Yf 6 CH V rfl A4 Y<|Yl A5 Y ?_;refine Yg (Bd Y Y)<|HR Y Y<|AN Y<|Zn [2] ?_;refine Zx<|AC<|AX<|Zt<|AO V SU Y (by exact ⟨by exact congrArg Value.bool (decide_eq_decide.2 (by unfold BH;omega)),V⟩)
           rotate_left
           focus
            refine Sk 5 V ?_
          rotate_left 2
          focus
           refine Sk 10 V ?_
         rotate_left 3
         focus
          refine Sk 17 V ?_
        rotate_left 4
        focus
         refine Zq<|A2<|Zv (Bd Y Y)<|AF Y<|Ad Y (fun k2=>?_) (fun k2=>?_);focus
          refine B3<|Ad Y (fun y=>?_) (fun y=>?_);focus
           refine A2<|Zh 5 CH V rfl A4 Y<|Zl A5 Y ?_;refine Zv (Bd Y Y)<|Zm Y<|AZ (t:=73) Y V (fun m=>?_) (fun m=>?_);refine Yf 6 CH V rfl A4 Y<|Yl A5 Y ?_;refine Yg (Bd Y Y)<|HR Y Y<|AN Y<|Zn [2] ?_;refine Zx<|AC<|AX<|Zt<|AO V SU Y (by exact ⟨by exact congrArg Value.bool (decide_eq_decide.2 (by unfold BH;omega)),V⟩)
          rotate_left
          exfalso;omega
         rotate_left
         focus
          refine Zg<|Zv (Bd Y Y)<|AF Y<|Ad Y (fun k3=>?_) (fun k3=>?_);focus
           refine A2<|Zh 5 CH V rfl A4 Y<|Zl A5 Y ?_;refine Zv (Bd Y Y)<|Zm Y<|AZ (t:=73) Y V (fun m=>?_) (fun m=>?_);refine Yf 6 CH V rfl A4 Y<|Yl A5 Y ?_;refine Yg (Bd Y Y)<|HR Y Y<|AN Y<|Zn [2] ?_;refine Zx<|AC<|AX<|Zt<|AO V SU Y (by exact ⟨by exact congrArg Value.bool (decide_eq_decide.2 (by unfold BH;omega)),V⟩)
          rotate_left
          focus
           refine Zq<|A2<|Zv (Bd Y Y)<|AF Y<|Ad Y (fun k4=>?_) (fun k4=>?_);focus
            refine B3<|Ad Y (fun z=>?_) (fun z=>?_);focus
             refine A2<|Zh 5 CH V rfl A4 Y<|Zl A5 Y ?_;refine Xr [_,_,_] Y call92 Y V (Jm _ _ _) ?_;refine Zm Y<|AZ (t:=85) Y V (fun g=>?_) (fun g=>?_);refine Yf 6 CH V rfl A4 Y<|Yl A5 Y ?_;refine Yg (Bd Y Y)<|HR Y Y<|AN Y<|Zn [2] ?_;refine Zx<|AC<|AX<|Zt<|AO V SU Y (by exact ⟨by exact congrArg Value.bool (decide_eq_decide.2 (by unfold BH;omega)),V⟩)
            rotate_left
            exfalso;omega
           rotate_left
           focus
            refine A2<|Zv (Bd Y Y)<|AF Y<|Ad Y (fun k5=>?_) (fun k5=>?_);focus
             refine B3<|Ad Y (fun E=>?_) (fun E=>?_);focus
              refine A2<|Zh 5 CH V rfl A4 Y<|Zl A5 Y ?_;refine Xr [_,_,_] Y call92 Y V (Jm _ _ _) ?_;refine Zm Y<|AZ (t:=85) Y V (fun g=>?_) (fun g=>?_);refine Yf 6 CH V rfl A4 Y<|Yl A5 Y ?_;refine Yg (Bd Y Y)<|HR Y Y<|AN Y<|Zn [2] ?_;refine Zx<|AC<|AX<|Zt<|AO V SU Y (by exact ⟨by exact congrArg Value.bool (decide_eq_decide.2 (by unfold BH;omega)),V⟩)
             rotate_left
             exfalso;omega
            rotate_left
            focus
             refine Zg<|Zv (Bd Y Y)<|AN Y<|Zn [1,39,78] ?_;refine Zx<|Ad Y (fun k6=>?_) (fun k6=>?_);focus
              refine A2<|Zh 5 CH V rfl A4 Y<|Zl A5 Y ?_;refine Xr [_,_,_] Y call92 Y V (Jm _ _ _) ?_;refine Zm Y<|AZ (t:=85) Y V (fun g=>?_) (fun g=>?_);refine Yf 6 CH V rfl A4 Y<|Yl A5 Y ?_;refine Yg (Bd Y Y)<|HR Y Y<|AM Y<|AX<|Zt<|AO V SU Y (by exact ⟨by exact congrArg Value.bool (decide_eq_decide.2 (by unfold BH;omega)),V⟩)
             rotate_left
             focus
              refine A2<|Zv (Bd Y Y)<|AF Y<|Ad Y (fun k7=>?_) (fun k7=>?_);focus
               refine A2<|Zh 5 CH V rfl A4 Y<|Zl A5 Y ?_;refine Xr [_,_,_] Y call92 Y V (Jm _ _ _) ?_;refine Zm Y<|AZ (t:=95) Y V (fun b7=>?_) (fun b7=>?_);refine Yf 6 CH V rfl A4 Y<|Yl A5 Y ?_;refine Xr [_,_,_] Y call92 Y V (Jm _ _ _) ?_;refine HR Y Y<|AM Y<|AX<|Zt<|AO V SU Y (by exact ⟨by exact congrArg Value.bool (decide_eq_decide.2 (by unfold BH;omega)),V⟩)
              rotate_left
              refine AB<|A8<|BT<|AM Y<|AO V SU Y (by exact ⟨by exact congrArg Value.bool (CC (by unfold BH;omega)).symm,V⟩)
             all_goals
              refine Sk 4 V<|AM Y<|AX<|Zt<|AO V SU Y (by exact ⟨by exact congrArg Value.bool (CC (by unfold BH;omega)).symm,V⟩)
        all_goals
         refine Sk 4 V<|AN Y<|Zn [2] ?_;refine Zx<|AC<|AX<|Zt<|AO V SU Y (by exact ⟨by exact congrArg Value.bool (CC (by unfold BH;omega)).symm,V⟩)
      all_goals
       refine A2<|AM Y<|Zt<|AO V SU Y (by exact ⟨by exact congrArg Value.bool (CC (by unfold BH;omega)).symm,V⟩)
 all_goals
  refine Sk 11 V<|Z0<|Zn [1,37] ?_;refine Zx<|BV Y<|A2<|AM Y<|Zt<|AO V SU Y (by exact ⟨by exact congrArg Value.bool (CC (by unfold BH;omega)).symm,V⟩)
theorem Oz(q:QM)(y:BH q)(x:AV)(e:Bool):BB prog 190 #[.agg q.Ax4,.agg x.Ax3,.bool e] [] (.bool (e&&inQ q x)):=by
 refine Se func190 ntmps190 [0,1,2] ?_;intro u R;refine A2<|Ze (Bx #[_,_,_,_,_,_,_])<|AE fun z=>Ze (Bx #[_,_,_,_,_])<|AE fun E=>AF Y<|A2<|Zo Wh (A7 (cs:=#[_,_,_,_,_]) C5 AW Y BW (by exact AP V)) ?_;refine Zh 2 CH V rfl A4 Y<|Zl A5 Y ?_;refine Xr [_,_] Y Q2 Y V (Lb x y.2.1) ?_;refine AF Y<|A2<|Sk 2 V ?_;refine Ae (t:=13) Y V (fun g=>?_) (fun g=>?_);·
  refine Yf 0 F1 V rfl A4 Y<|Yl A5 Y ?_;refine Yf 1 CH V rfl A4 Y<|Yl A5 Y ?_;refine Yg (Bd Y Y)<|Sk 2 V ?_;refine AZ (t:=20) Y V (fun h2=>?_) (fun h2=>?_);·
   refine Zf Y Y<|Yf 3 CH V rfl A4 Y<|Yl A5 Y ?_;refine Yg (Fa Y Y)<|Sk 2 V ?_;refine AZ (t:=26) Y V (fun m=>?_) (fun m=>?_);focus
    refine Zf Y Y<|Yf 4 CH V rfl A4 Y<|Yl A5 Y ?_;refine Yg (JB Y Y)<|Zv (Ay Y Y) ?_
   rotate_left
   focus
    refine Sk 5 V ?_
   all_goals
    refine AN Y<|Zn [6] ?_;refine Zx<|AC<|AO V results190 Y (by exact ⟨by unfold inQ;simp [g,h2,m],V⟩)
  refine Sk 11 V<|AN Y<|Zn [6] ?_;refine Zx<|AC<|AO V results190 Y (by exact ⟨by unfold inQ;simp [g,h2],V⟩)
 refine Sk 18 V<|AN Y<|Zn [6] ?_;refine Zx<|AC<|AO V results190 Y (by exact ⟨by unfold inQ;simp [g],V⟩)
theorem GQ(q:QM)(m:BH q)(x:AV)(e:Bool):BB prog 191 #[.agg q.Ax4,.agg x.Ax3,.bool e] [] (I4 (if e then Bh x q.bq else 0)):=by
 refine Se func191 ntmps191 [0,1,2] ?_;intro u R;refine A2<|Ze (Bx #[_,_,_,_,_,_,_])<|AE fun y=>Ze (Bx #[_,_,_,_,_])<|AE fun z=>AF Y<|C0 Y<|Zv (CR Y)<|A6<|Af Y (fun g=>?_) (fun g=>?_);·
  refine A2<|AM Y<|Zt<|AO V results191 Y (by
   have h2:e=false:=by simpa using g
   exact ⟨by rw [h2];rfl,rfl⟩)
 refine AB<|BT<|Zo Wh (A7 (cs:=#[_,_,_,_,_]) C5 AW Y BW (by exact AP V)) ?_;refine Zh 5 CH V rfl A4 Y<|Zl A5 Y ?_;refine Xr [_,_] Y Q2 Y V (Lb x (jE m)) ?_;refine AM Y<|AO V results191 Y (by
  have h2:e=true:=by simpa using g
  exact ⟨by rw [h2];rfl,rfl⟩)
theorem VD(q:QM)(m:BH q)(x y:AV):BB prog 236 #[.agg q.Ax4,.agg x.Ax3,.agg y.Ax3] [] (.bool (Ht q x y)):=by
 refine Se func236 ntmps236 [0,1,2] ?_;intro u R;refine A2<|Ze (Bx #[_,_,_,_,_,_,_])<|AE fun z=>Ze (Bx #[_,_,_,_,_])<|AE fun E=>Ze (Bx #[_,_,_,_,_])<|AE fun G=>AF Y<|A2<|Zo Wh (A7 (cs:=#[_,_,_,_,_]) C5 AW Y BW (by exact AP V)) ?_;refine Zh 2 CH V rfl A4 Y<|Zl A5 Y ?_;refine Xr [_,_] Y Q2 Y V (Lb x m.2.1) ?_;refine AF Y<|A2<|Zo Wh (A7 (cs:=#[_,_,_,_,_]) C5 AW Y BW (by exact AP V)) ?_;refine Zh 2 CH V rfl A4 Y<|Zl A5 Y ?_;refine Xr [_,_] Y Q2 Y V (Lb y m.2.1) ?_;refine AN Y<|Zn [4,5,7,8] ?_;refine BT<|Sk 2 V<|Zv (EE Y Y)<|Zm Y<|AZ (t:=20) Y V (fun g=>?_) (fun g=>?_);·
  refine Sk 11 V<|AN Y<|Zn [6] ?_;refine Zx<|AC<|AO V results236 Y (by exact ⟨by unfold Ht;simp [g],V⟩)
 refine Sk 2 V<|Yg (Bd Y Y)<|Zf Y Y ?_;refine AZ (t:=24) Y V (fun h2=>?_) (fun h2=>?_);focus
  refine Yf 1 F1 V rfl A4 Y<|Yl A5 Y ?_;refine Yf 1 F1 V rfl A4 Y<|Yl A5 Y ?_;refine Yg (EE Y Y)<|Yg (Ay Y Y) ?_
 rotate_left
 focus
  refine Sk 6 V ?_
 all_goals
  refine H3 Y Y<|AN Y<|Zn [6] ?_;refine Zx<|AC<|AO V results236 Y (by exact ⟨by unfold Ht;simp [g,h2],V⟩)
theorem RV(m a b:Int):BB prog 237 #[I4 m,I4 a,I4 b] [] (.bool (ltS m a b)):=by
 refine Se func237 ntmps237 [0,1,2] ?_;intro u R;refine A2<|AF Y<|C0 Y<|Zv (Dq Y Y)<|A6<|Ad Y (fun g=>?_) (fun g=>?_);·
  refine A2<|Sk 2 rfl<|Zv (EE Y Y)<|AM Y<|Zt<|AO rfl results237 Y (by exact ⟨by unfold ltS;rw [B2 g],rfl⟩)
 refine AB<|BT<|Sk 2 rfl<|Zv (Dq Y Y)<|AM Y<|AO rfl results237 Y (by exact ⟨by unfold ltS;rw [Ax g],rfl⟩)
set_option maxHeartbeats 1000000 in
theorem Sc(q:QM)(c:Chg):BB prog 152 #[.agg q.Ax4,.agg c.Ax2] [] (.bool (decide (BH q)&&(decide c.ok&&Dc q c))):=by
 refine Se func152 ntmps152 [0,1] ?_;intro u R;refine A2<|Ze (Bx #[_,_,_,_,_,_,_])<|AE fun b1=>Ze (Bx #[_,_,_,_,_,_,_,_,_,_])<|AE fun b2=>AF Y<|A2<|Zo Wh (A7 (cs:=q.Ax4) DE CN Y BW (by exact AP V)) ?_;refine Xr [_] Y call37 Y V (P8 q) ?_;refine AF Y<|A2<|Zo Wh (A7 (cs:=c.Ax2) G1 D2 Y BW (by exact AP V)) ?_;refine Xr [_] Y call141 Y V (VE c) ?_;refine AF Y<|C0 Y<|Zv (Bp Y)<|Zm Y<|Ae (t:=21) Y V (fun y=>?_) (fun y=>?_);·
  refine Sk 3 V<|Z0<|Zn [2,3,24] ?_;refine Zx<|BV Y<|A2<|AM Y<|Zt<|AO rfl dj Y (by exact ⟨by(have E:¬BH q:=(by simpa using y);rw [CC E];rfl),rfl⟩)
 refine Zf Y Y<|Yg (Bp Y)<|H3 Y Y<|Z0<|Zn [2,3,24] ?_;refine Zx<|Af Y (fun z=>?_) (fun z=>?_);·
  refine A2<|AM Y<|Zt<|AO rfl dj Y (by exact ⟨by(have E:¬c.ok:=(by simpa using z);rw [CC E];simp),rfl⟩)
 have g:BH q:=by simpa using y
 have hc:c.ok:=by simpa using z
 refine AB<|BT<|Zo Wh (A7 (cs:=c.Ax2) G1 D2 Y BW (by exact AP V)) ?_;refine Xr [_] Y call183 Y V (Ku c) ?_;refine Sk 3 V<|Ze (Al DS #[_,_,_,_,_])<|AE fun bx=>Xe (Xw AW c.before.Ax3) ?_;refine AF Y<|A2<|Zo Wh (A7 (cs:=c.Ax2) G1 D2 Y BW (by exact AP V)) ?_;refine Xr [_] Y call77 Y V (IK c) ?_;refine Sk 3 V<|Ze (Al DS #[_,_,_,_,_])<|AE fun J=>Xe (Xw AW c.after.Ax3) ?_;refine AN Y<|Zn [2,3,7,8,9,10] ?_;refine BT<|Zo Wh (A7 (cs:=#[_,_,_,_,_,_,_]) DE CN Y BW (by exact AP V)) ?_;refine Zo Wh (A7 (cs:=#[_,_,_,_,_]) C5 AW Y BW (by exact AP V)) ?_;refine Zm Y<|Xr [_,_,_] Y aq Y V (Oz q g c.before c.had) ?_;rw [iY];refine AF Y<|A2<|Zo Wh (A7 (cs:=#[_,_,_,_,_,_,_]) DE CN Y BW (by exact AP V)) ?_;refine Zo Wh (A7 (cs:=#[_,_,_,_,_]) C5 AW Y BW (by exact AP V)) ?_;refine Zm Y<|Xr [_,_,_] Y aq Y V (Oz q g c.after c.has) ?_;rw [ZL];refine AF Y<|A2<|Zo Wh (A7 (cs:=#[_,_,_,_,_,_,_]) DE CN Y BW (by exact AP V)) ?_;refine Zo Wh (A7 (cs:=#[_,_,_,_,_]) C5 AW Y BW (by exact AP V)) ?_;refine Zm Y<|Xr [_,_,_] Y cR Y V (GQ q g c.before _) ?_;rw [iP];refine AN Y<|Zn [2,3,9,11,12,13] ?_;refine BT<|Zo Wh (A7 (cs:=#[_,_,_,_,_,_,_]) DE CN Y BW (by exact AP V)) ?_;refine Zo Wh (A7 (cs:=#[_,_,_,_,_]) C5 AW Y BW (by exact AP V)) ?_;refine Zm Y<|Xr [_,_,_] Y cR Y V (GQ q g c.after _) ?_;rw [iQ];refine CT Y<|A2<|Zh 0 CH V rfl A4 Y<|Zl A5 Y ?_;refine A6<|AQ<|Zq<|A2<|Zv (Bd Y Y)<|AF Y<|Ad Y (fun K=>?_) (fun K=>?_);focus
  refine B3<|Ad Y (fun G=>?_) (fun G=>?_);focus
   refine A2<|Sk 2 V ?_;refine Ae (t:=57) Y V (fun m=>?_) (fun m=>?_);focus
    refine Sk 2 V ?_
   rotate_left
   focus
    refine Sk 2 V ?_
  rotate_left 2
  exfalso;omega
 rotate_left 2
 focus
  refine Zg<|Zv (Bd Y Y)<|AF Y<|Ad Y (fun O=>?_) (fun O=>?_);focus
   refine A2<|Sk 2 V ?_;refine Ae (t:=57) Y V (fun m=>?_) (fun m=>?_);focus
    refine Sk 2 V ?_
   rotate_left
   focus
    refine Sk 2 V ?_
  rotate_left 2
  focus
   refine A2<|Zv (Bd Y Y)<|AN Y<|Zn [2,3,11,12,13,14,52,60] ?_;refine Zx<|Ad Y (fun U=>?_) (fun U=>?_);·
    refine A2<|Sk 2 rfl<|Zv (Ho MY Y Y)<|AM Y<|AX<|Zt<|AO rfl dj Y (by exact ⟨by rw [Cp g,Cp hc,M1,M1];unfold Dc;rw [Ax A0,B2 A0];unfold TK;cases (bfQ q c).isSome<;>cases (afQ q c).isSome<;>rfl,rfl⟩)
   refine A2<|Zv (Bd Y Y)<|AF Y<|Ad Y (fun W=>?_) (fun W=>?_);·
    refine A2<|Sk 2 rfl<|Zv (ED Y Y)<|AM Y<|AX<|Zt<|AO rfl dj Y (by exact ⟨by rw [Cp g,Cp hc,M1,M1];unfold Dc;rw [Ax A0,Ax A0,B2 A0],rfl⟩)
   refine Zq<|A2<|Zv (Bd Y Y)<|AF Y<|Ad Y (fun X=>?_) (fun X=>?_);focus
    refine B3<|Ad Y (fun I=>?_) (fun I=>?_);rotate_left;exfalso;omega
   rotate_left
   focus
    refine Zg<|Zv (Bd Y Y)<|AF Y<|Ad Y (fun Z=>?_) (fun Z=>?_);rotate_left;focus
     refine AB<|A8<|BT<|Sk 2 V ?_;refine Ae (t:=82) Y V (fun m3=>?_) (fun m3=>?_);focus
      refine Sk 9 V ?_
     rotate_left
     focus
      refine Sk 3 V ?_;refine Ae (t:=85) Y V (fun m4=>?_) (fun m4=>?_);focus
       refine Sk 6 V ?_
      rotate_left
      focus
       refine Yf 0 CM V rfl A4 Y<|Yl A5 Y ?_;refine Yf 6 CH V rfl A4 Y<|Yl A5 Y ?_;refine Yg (Bd Y Y)<|Zv (BC Y Y) ?_
     all_goals
      refine AN Y<|Zn [4] ?_;refine Zx<|AC<|AO rfl dj Y (by exact ⟨by rw [Cp g,Cp hc,M1,M1];unfold Dc;rw [Ax A0,Ax A0,Ax A0,Ax A0];unfold U4;simp_all,rfl⟩)
   all_goals
    refine A2<|Sk 2 V<|Zv (Ho MY Y Y)<|Zm Y<|Ae (t:=76) Y V (fun m2=>?_) (fun m2=>?_);focus
     refine Sk 4 V ?_
    rotate_left
    focus
     refine Sk 2 V<|Yg (ED Y Y)<|Zv (BC Y Y) ?_
    all_goals
     refine AN Y<|Zn [4] ?_;refine Zx<|AC<|AX<|Zt<|AO rfl dj Y (by exact ⟨by rw [Cp g,Cp hc,M1,M1];unfold Dc;rw [Ax A0,Ax A0,Ax A0,B2 A0];unfold TK;simp_all,rfl⟩)
 all_goals
  refine AN Y<|Zn [4] ?_;refine Zx<|AC<|AX<|Zt<|AO rfl dj Y (by exact ⟨by rw [Cp g,Cp hc,M1,M1];unfold Dc;rw [B2 A0];unfold U4;rw [m];first|rfl|simp,rfl⟩)
variable{i:Nat}{r:AV}
theorem ZY{rows:List AV}{f:AV->Bool}(g:rows[i]?=some r):(rows.take (i+1)).filter f=(rows.take i).filter f++if f r then [r]else []:=by
 rw [Bt g,Lz];cases h:f r<;>simp [h]
theorem ox(h:r.t≠c.t):Fy c r=false:=by unfold Fy;rw [CC h];rfl
theorem oy(h:r.k≠c.k):Fy c r=false:=by unfold Fy;rw [CC h,Bool.and_false]
theorem oe(g:¬r.t≠c.t)(h2:¬r.k≠c.k):Fy c r=true:=by unfold Fy;rw [Cp (Fi.1 g),Cp (Fi.1 h2)];rfl
theorem wC{rows:List AV}(g:rows[i]?=some r)(h:Fy c r=false):(rows.take (i+1)).filter (fun x=>!Fy c x)=(rows.take i).filter (fun x=>!Fy c x)++[r]:=by rw [ZY g,h];rfl
theorem yc{rows:List AV}(g:rows[i]?=some r)(h:Fy c r=true):(rows.take (i+1)).filter (fun x=>!Fy c x)=(rows.take i).filter (fun x=>!Fy c x):=by rw [ZY g,h];exact HT _
variable{M:List AR}{n:Nat}
theorem KP{p:C1}{cap:Nat}{rs:List AV}(h:CZ M (.slice p n cap) rs)(z:rs[i]?=some r):∃g off cur T zz,p=some ⟨g,off,none⟩/\(g,Obj.cells cur T zz)∈M/\off+i*5+5<=cur.size/\cur.extract (off+i*5) (off+i*5+5)=r.Ax3:=by
 obtain ⟨E,m,e,_,y⟩:=h;injection e with e1 _ _
 subst e1;exact y i r z
variable{α:Type}{k:Nat}
theorem rR{f:α->Bool}{L:List α}{x:α}(hx:L[k]?=some x)(z:f x=true)(g:∀(j:Nat) (y:α),j<k->L[j]?=some y->f y=false):(L.findIdx? f).getD L.length=k:=by
 have m:=(D3.1 hx).1;have h:L.findIdx? f=some k:=by
  rw [Sp];refine ⟨m,by rw [(D3.1 hx).2];exact z,fun j E=>?_⟩;rw [g j _ E (Bk A0)];decide
 rw [h];rfl
theorem xN{f:α->Bool}{L:List α}(z:k<=L.length)(hn:¬k<L.length)(g:∀(j:Nat) (y:α),j<k->L[j]?=some y->f y=false):(L.findIdx? f).getD L.length=k:=by
 have h:L.findIdx? f=none:=by
  rw [Z2];intro x hx;obtain ⟨j,m⟩:=JT hx;exact g j x (by have:=(D3.1 m).1;omega) m
 rw [h];show L.length=k;omega
theorem xO(f:α->Bool)(L:List α):(L.findIdx? f).getD L.length<=L.length:=by
 cases h:L.findIdx? f with
 |none=>exact B4 _
 |some k=>
  obtain ⟨g,_⟩:=Sp.1 h;exact Nat.le_of_lt g
theorem um(rows:List AV)(h:(afQ q c).isSome=false):Cv q c rows=rows.filter fun x=>!Fy c x:=by
 unfold Cv;cases h9:afQ q c with
 |none=>rfl
 |some r=>rw [h9]at h;cases h
theorem iF(rows:List AV)(h:(afQ q c).isSome=true):Cv q c rows=PS (Ht q c.after) (rows.filter fun x=>!Fy c x) c.after:=by
 unfold Cv;rw [su h]
variable{v:A3}
set_option maxHeartbeats 2000000 in
theorem uY{rows:List AV}(hv:CZ M v rows)(hl:rows.length<=1000000)(q:QM)(hq:BH q)(c:Chg):CJ prog 192 #[.agg q.Ax4,v,.agg c.Ax2] [M] (fun w H'=>∃s,BS 5 91 w (Cv q c rows).length (Aa (Cv q c rows)) s/\H'=[s,M]):=by
 have qa:=mL;obtain ⟨p,cap,rfl,⟨pz,q9⟩,hg⟩:=id hv;refine Se func192 ntmps192 [0,1,2] ?_;intro u R;refine A2<|Ze (Bx #[_,_,_,_,_,_,_])<|AE fun b1=>Ze (Bx #[_,_,_,_,_,_,_,_,_,_])<|AE fun b2=>AF Y<|A2<|CT Y<|A2<|AF Y<|AQ<|Bi<|Zb [7,8,1,3,5] ?_;refine Av (e0:=[(7,_),(8,_)]) (fun m e H=>∃(i:Nat) (ov:A3) (so:List AR),m=rows.length -i/\(i<=rows.length/\BS 5 91 ov ((rows.take i).filter fun x=>!Fy c x).length (Aa ((rows.take i).filter fun x=>!Fy c x)) so)/\e=[(7,ov),(8,I4 (i:Int))]/\H=[so]) (by exact ⟨0,.slice none 0 0,[],rfl,⟨CD _,by rw [Hh];exact BX 5 _⟩,rfl,rfl⟩) Wp ?_;rintro _ _ _ ⟨i,ov,so,rfl,⟨hi,K⟩,rfl,rfl⟩;obtain ⟨op,oc,rfl⟩:=K.form;refine Zq<|A2<|Sk 2 V<|Zv (AJ B0 Y)<|Zv (Ak Y Y)<|A6<|Ad Y (fun z=>?_) (fun z=>?_);·
  obtain ⟨r,hr⟩:∃r,rows[i]?=some r:=⟨_,Bk z⟩;obtain ⟨g,off,cur,T,zz,rfl,ax,lv,J⟩:=hg i r hr;have pq:((rows.take i).filter fun x=>!Fy c x).length<=i:=To (On _ _) (by rw [CI];omega)
  refine B3<|Zq<|AQ<|Zq<|Au (n:=18) (0::0::3::7::15::0::32::127::255::511::511::2047::4095::8191::511::16895::65535::131071::[]) 0 AG AG V<|A1 0 V (AA Y)<|A1 1 V (AA Y)<|A1 2 V (A9 B0 AW Y Y A0)<|A1 3 V (Aj (off:=0) F1 V rfl A4 Y)<|CX (D':=31) 4 V rfl V (GK Wo (ax)) (BZ A5 Y (by exact IU (j:=0) J V)) ?_;refine A1 5 V (AL (off:=0) CM V rfl A4 Y)<|B6 6 V A5 Y ?_;refine A1 7 V (ED Y Y)<|A1 8 V (AA Y)<|CS (t:=28) Y (fun I=>?_) (fun I=>?_);focus
   rw [Cp I];have U:=ox (c:=c) I
   refine AK 9 V<|AK 10 V<|AK 11 V<|AK 12 V<|AK 13 V<|AK 14 V<|AK 15 V<|AK 16 V<|A1 17 V (Ay Y Y)<|Am<|Zn [1,3,5,7,8,37] ?_;refine Zx<|BV Y ?_
  rotate_left
  focus
   rw [CC I];refine B1 9 V (AA Y)<|B1 10 V (AA Y)<|B1 11 V (A9 B0 AW Y Y A0)<|B1 12 V (Aj (off:=1) F1 V rfl A4 Y)<|PR (D':=16383) 13 Y V rfl V (GK Wo (ax)) (BZ A5 Y (by exact IU (j:=1) J V)) ?_;refine B1 14 V (AL (off:=1) CM V rfl A4 Y)<|DG 15 V Wh (BZ A5 Y B5) ?_;refine B1 16 V (ED Y Y)<|A1 17 V (BC Y Y)<|Am<|Zn [1,3,5,7,8,37] ?_;refine Zx<|Ad Y (fun af=>?_) (fun af=>?_);focus
    have U:=oy (c:=c) af
   rotate_left
   have U:=oe (c:=c) I af;refine AB<|A8<|Zx<|Zg<|Zm Y<|Ya (n:=1) Y Y<|AN Y<|Zn [7,8,1,3,5] ?_;refine Ac (e':=[(7,_),(8,_)]) (by(have e9:=yc hr U;exact ⟨i+1,_,so,rfl,⟨by omega,by rw [e9];exact K⟩,rfl,rfl⟩))
  all_goals
   refine Zg<|Sk 3 V ?_;refine BN (A9 B0 AW Y Y A0)<|Cj (Yx Wo (ax)) (A7 (cs:=r.Ax3) C5 AW Y A0 (by exact J)) V rfl ?_;refine Ze (Ah (vs:=[_]) (cs:=[_,_,_,_,_]) B0 AW DS Y V rfl V rfl V)<|AE fun gb=>Ze (BL (by_:=40) (sz:=5) B0 (V:Tryz.prog.info? 91=some Tryz.t91) V rfl V rfl Y (K) Y (D7 5 gb 1 1 91 (0,0) [I4 r.t,I4 r.k,I4 r.v.a,I4 r.v.b,I4 r.v.c] V) Wo Wo HH A0 A0) ?_;rintro _ _ ⟨kz,X,rfl⟩;obtain ⟨p8,o9,rfl⟩:=X.form;refine AN Y<|A8<|Zx<|Zg<|Zm Y<|Ya (n:=1) Y Y<|AN Y<|Zn [7,8,1,3,5] ?_;refine Ac (e':=[(7,_),(8,_)]) (by(have e9:=wC hr U;exact ⟨i+1,_,kz,rfl,⟨by omega,by rw [e9];exact BJ X (by rw [C7];rfl) (by rw [BR];rfl)⟩,rfl,rfl⟩))
 have ei:i=rows.length:=by omega
 rw [ei,HJ]at K⊢;obtain ⟨O,E⟩:∃O,O=rows.filter fun x=>!Fy c x:=⟨_,rfl⟩;have pg:O.length<=rows.length:=by rw [E];exact On _ _
 rw [<-E]at K⊢;have hU:=Ca K A0
 obtain ⟨_,_,e9,⟨_,bf⟩,_⟩:=id hU;injection e9 with _ _ e93
 rw [<-e93]at bf;refine Az<|Zt<|Zt<|AU<|BT<|Zo Wh (A7 (cs:=c.Ax2) G1 D2 Y (by exact B4 _) (by exact AP V)) ?_;refine Xr [_] Y call77 Y V (IK c) ?_;refine Sk 3 V<|Ze (Al DS #[_,_,_,_,_])<|AE fun o8=>Xe (Xw AW c.after.Ax3) ?_;refine AF Y<|A2<|Zo Wh (A7 (cs:=#[_,_,_,_,_,_,_]) DE CN Y (by exact B4 _) (by exact AP V)) ?_;refine Zo Wh (A7 (cs:=#[_,_,_,_,_]) C5 AW Y (by exact B4 _) (by exact AP V)) ?_;refine Zm Y<|Xr [_,_,_] Y aq Y V (Oz q hq c.after c.has) ?_;rw [ZL];refine AN Y<|Zn [3,7,9,11] ?_;refine Zx<|C0 Y<|Zv (CR Y)<|A6<|Af Y (fun h1=>?_) (fun h1=>?_);·
  have W:(afQ q c).isSome=false:=by simpa using h1
  refine B7 Y<|AM Y<|Zt<|AO rfl results192 Y (by exact ⟨so,by rw [um rows W,<-E];exact K,rfl⟩)
 have W:(afQ q c).isSome=true:=by simpa using h1
 refine AB<|BT<|AF Y<|Zb [3,12,7,9] ?_;refine C9 (e0:=[(3,_),(12,_)]) (H0:=[]) (fun e H=>∃(k:Nat),((O.findIdx? (Ht q c.after)).getD O.length=k)/\e=[(12,I4 (k:Int))]/\H=[]) Wp ?hx_6 ?hy_6
 case hx_6=>
  refine AQ<|Zb [12,3,7,9] ?_;refine Av (e0:=[(12,_)]) (fun m e H=>∃(k:Nat),m=O.length -k/\(k<=O.length/\∀(j:Nat) (y:AV),j<k->O[j]?=some y->Ht q c.after y=false)/\e=[(12,I4 (k:Int))]/\H=[]) (by exact ⟨0,V,⟨CD _,fun j y hj=>absurd hj (gC j)⟩,V,V⟩) Wp ?_;rintro _ _ _ ⟨k,rfl,⟨hk,G⟩,rfl,rfl⟩;refine Zq<|A2<|Sk 2 V<|Zv (AJ B0 Y)<|Zv (Ak Y Y)<|A6<|Ad Y (fun z=>?_) (fun z=>?_);·
   obtain ⟨x,hx⟩:∃x,O[k]?=some x:=⟨_,Bk z⟩;obtain ⟨g2,mR,l8,T2,qw,gq,gm,qb,kv⟩:=KP hU hx;rw [gq];refine B3<|AQ<|Zq<|Au (n:=8) (0::0::0::0::12::28::63::127::[]) 64 AG AG V<|Fo 0 V Wh (A7 (cs:=#[_,_,_,_,_,_,_]) DE CN Y (by exact B4 _) (by exact AP V)) ?_;refine Fo 1 V Wh (A7 (cs:=#[_,_,_,_,_]) C5 AW Y (by exact B4 _) (by exact AP V)) ?_;refine A1 2 V (AA Y)<|A1 3 V (AA Y)<|A1 4 V (A9 B0 AW Y Y A0)<|CX (D':=63) 5 V rfl V (GK Wo (gm)) (A7 (cs:=x.Ax3) C5 AW Y A0 (by exact kv)) ?_;refine Yw 6 127 V (Zu [_,_,_] Y call236 Y V (VD q hq c.after x))<|DA<|A1 7 V (Aq Y)<|Am<|Zx<|C0 Y<|Z0<|Zn [3,7,9,12,68] ?_;refine Zx<|Af Y (fun hb=>?_) (fun hb=>?_);·
    refine Az<|Zt<|Ba V<|Zt<|AU<|HC (by exact ⟨k,rR hx hb G,V,V⟩)
   refine B3<|Zg<|Zm Y<|Ya (n:=1) Y Y<|AN Y<|A8<|Zn [12,3,7,9] ?_;refine Ac (e':=[(12,_)]) (by
    exact ⟨k+1,V,⟨by omega,fun j y hj hy=>by
     rcases FA j k with h9|h9
     · exact G j y h9 hy
     · rw [show j=k by omega,hx]at hy
       injection hy with hy
       rw [<-hy];exact hb⟩,rfl,rfl⟩)
  refine Az<|Zt<|Zt<|AU<|HC (by exact ⟨k,xN hk z G,V,V⟩)
 rintro _ _ ⟨k,hk,rfl,rfl⟩;have ek:k<=O.length:=by rw [<-hk];exact xO _ _
 refine Zq<|Au (n:=12) (0::0::0::7::0::16::0::0::192::496::1023::2047::[]) 1568 AG AG V<|A1 0 V (AA Y)<|A1 1 V (AA Y)<|A1 2 V (AA Y)<|A1 3 V (Ey B0 AW Y Y Y A0)<|Fo 4 V Wh (A7 (cs:=c.after.Ax3) C5 AW Y (by exact B4 _) (by exact AP V)) ?_;refine A1 6 V (AA Y)<|A1 7 V (AA Y)<|A1 8 V (Bv B0 AW Y Y A0)<|Yw 5 511 V (Ah (vs:=[_]) (cs:=[_,_,_,_,_]) B0 AW DS Y V rfl V rfl V)<|AE fun gy=>Yw 9 1023 V (BL (by_:=40) (sz:=5) B0 (V:Tryz.prog.info? 91=some Tryz.t91) V rfl V rfl Y (En 5 91 gy 1 [I4 c.after.t,I4 c.after.k,I4 c.after.v.a,I4 c.after.v.b,I4 c.after.v.c] V AH) Y (Oe (JW K) k (O.length -k) (oc -k) A0 bf) Wo Wo (by exact fun u hu=>CK O u (Lo hu)) A0 A0) ?_;rintro _ _ ⟨qo,Z,rfl⟩;obtain ⟨p9,oq,rfl⟩:=Z.form;refine Yw 10 2047 V (LX (by_:=40) (sz:=5) B0 (V:Tryz.prog.info? 91=some Tryz.t91) V rfl V rfl Y (Gd K k k ek) Y (JW Z) Wo Wo A0 A0) ?_;rintro _ _ ⟨cO,d9,cu,rfl,l9,bn,rfl⟩;have h6:BS 5 91 (.slice cO (k+(1+(O.length -k))) d9) (Cv q c rows).length (Aa (Cv q c rows)) cu:=by
  rcases bn with⟨h8,_⟩|h8
  · omega
  · refine BJ h8 (by rw [iF rows W,<-E,ZK];omega) ?_
    rw [iF rows W,<-E];unfold PS;rw [hk,BR,BR,DV,DF,G0];rfl
 refine A1 11 V (Aq Y)<|Am<|Zx<|AC<|AO V results192 Y (by exact ⟨cu,h6,V⟩)
structure BQ where
 l:AV
 r:AV
deriving DecidableEq
def BA(ps:List BQ):List A3:=ps.flatMap fun p=>[I4 p.l.t,I4 p.l.k,I4 p.l.v.a,I4 p.l.v.b,I4 p.l.v.c,I4 p.r.t,I4 p.r.k,I4 p.r.v.a,I4 p.r.v.b,I4 p.r.v.c]
theorem Di(a b:List BQ):BA (a++b)=BA a++BA b:=by unfold BA;rw [O2]
theorem BM:∀(rs:List BQ),(BA rs).length=rs.length*10
 |[]=>rfl
 |r::rs=>by
  have:=BM rs;unfold BA at*;rw [L0,C7,this,GB];simp;omega
theorem GN(rs:List BQ)(k:Nat):(BA rs).take (k*10)=BA (rs.take k):=by
 rcases FA rs.length k with h|h
 · rw [Hx (by rw [BM];omega),Hx A0]
 · have e:BA rs=BA (rs.take k)++BA (rs.drop k):=by rw [<-Di,Ln]
   rw [e,L7 (by rw [BM,CI];omega)]
theorem MP(rs:List BQ)(k:Nat):(BA rs).drop (k*10)=BA (rs.drop k):=by
 rcases FA rs.length k with h|h
 · rw [S3 (by rw [BM];omega),S3 A0];rfl
 · have e:BA rs=BA (rs.take k)++BA (rs.drop k):=by rw [<-Di,Ln]
   rw [e,SJ (by rw [BM,CI];omega)]
theorem F7(rs:List BQ):∀u∈BA rs,u.oneCell'=true:=by
 intro u g;unfold BA at g;obtain ⟨r,_,h⟩:=cE.1 g;simp only [H4,PJ,R0]at h;rcases h with rfl|rfl|rfl|rfl|rfl|rfl|rfl|rfl|rfl|rfl<;>rfl
def U6(M:List AR)(v:A3)(rs:List BQ):Prop:=∃p cap,v= .slice p rs.length cap/\(rs.length<=maxLen/\rs.length<=cap)/\∀(i:Nat) (x:BQ),rs[i]?=some x->∃g off cur T zz,p=some ⟨g,off,none⟩/\(g,Obj.cells cur T zz)∈M/\off+i*10+10<=cur.size/\cur.extract (off+i*10) (off+i*10+10)=#[I4 x.l.t,I4 x.l.k,I4 x.l.v.a,I4 x.l.v.b,I4 x.l.v.c,I4 x.r.t,I4 x.r.k,I4 x.r.v.a,I4 x.r.v.b,I4 x.r.v.c]
variable{rs:List BQ}{s:List AR}
theorem O4{e:An}(h:BS 10 e v rs.length (BA rs) s)(hn:rs.length<=maxLen):U6 s v rs:=by
 obtain ⟨b,cap,rfl⟩:=h.form;refine ⟨b,cap,V,⟨hn,Ew h⟩,fun i x hx=>?_⟩;obtain ⟨g,y,cur,z,hv,rfl,E,m⟩:=J7 h i (D3.1 hx).1;injection hv with hv1 hv2 hv3
 refine ⟨g,0,cur,e,z,hv1,by simp,by omega,?_⟩;unfold BA at m;rw [Hg _ 10 (fun _=>rfl) rs i x hx]at m;rw [Dd];exact L5.1 m
theorem Rq{r:BQ}(h:rs[k]?=some r):BA rs=BA (rs.take k)++(BA [r]++BA (rs.drop (k+1))):=by
 rw [<-Di,<-Di];congr 1;obtain ⟨g,rfl⟩:=D3.1 h;rw [WD,<-Sx g,Ln]
theorem Ja{r:BQ}(h:rs[k]?=some r)(j:Nat)(g:j<10):(BA rs)[k*10+j]?=(BA [r])[j]?:=by
 have m:=(D3.1 h).1;have e:(BA (rs.take k)).length=k*10:=by rw [BM,CI];omega
 rw [Rq h,Ss A0,ff (by rw [e,BM];simp;omega),e,ie]
theorem Wj{p:C1}{cap:Nat}(h:U6 M (.slice p n cap) rs):Gc M p (BA rs):=by
 obtain ⟨U,E,e,O,J⟩:=h;injection e with e1 e2 e3
 subst e1;intro j u G;have y:=(D3.1 G).1
 rw [BM]at y;obtain ⟨x,hx⟩:∃x,rs[j/10]?=some x:=⟨_,Bk A0⟩;obtain ⟨g,off,cur,T,zz,rfl,K,z,m⟩:=J (j/10) x hx;refine ⟨g,off,cur,T,zz,V,K,?_⟩;have I:=Mv m z (j%10) A0
 have h2:=Ja hx (j%10) A0;rw [show j/10*10+j%10=j by omega,G]at h2;rw [show off+j=off+j/10*10+j%10 by omega,I,h2,<-Kf];rfl
theorem Wy(hv:U6 M v rs)(W:rs.length<=1000000000000):CJ prog 278 #[v] [M] (fun r H'=>∃sr,BS 10 315 r rs.length (BA rs) sr/\H'=[sr,M]):=by
 have O:=mL;obtain ⟨p,cap,rfl,⟨X,K⟩,J⟩:=id hv;have y:Gc M p (BA rs):=Wj hv
 refine Se func278 ntmps278 [0] ?_;intro u R;refine A2<|AF Y<|C0 Y<|Zv (HV HP Y Y)<|A6<|Af Y (fun G=>?_) (fun G=>?_);·
  have z:p=none:=by cases p with
   |none=>rfl
   |some x=>cases G
  have h0:rs=[]:=by
   cases rs with
   |nil=>rfl
   |cons x l=>obtain ⟨g,off,cur,T,zz,E,_⟩:=J 0 x rfl;rw [z]at E;cases E
  refine Zq<|Bi<|Zg<|AM Y<|Zt<|AO rfl results278 Y (by exact ⟨[],by rw [h0];exact BX 10 _,rfl⟩)
 refine AB<|BT<|Ze (EM HP Hi)<|AE fun I=>Zm Y<|Ze (G6 (by_:=80) (sz:=10) HP (V:Tryz.prog.info? 315=some Tryz.t315) V rfl V rfl Y (En 10 315 I 0 [] V AH) Y (y) (by exact BM _) AH Wo Wo (by exact F7 _) A0 A0) ?_;rintro _ _ ⟨U,m,rfl⟩;replace m:=BJ m (Dd _) (ON _);refine AM Y<|AO V results278 Y (by exact ⟨_,m,V⟩)
def Gu(pd:BQ->Bool)(rows:List BQ):Int:=(rows.findIdx? pd).elim (-1) fun i=>(i:Int)
variable{rows:List BQ}{x:BQ}
theorem lM{g:BQ->Bool}(h:∀(j:Nat) (y:BQ),j<i->rows[j]?=some y->g y=false)(hx:rows[i]?=some x)(z:g x=true):Gu g rows=(i:Int):=by
 obtain ⟨hi,rfl⟩:=D3.1 hx;unfold Gu;rw [Sp.2 ⟨hi,z,fun j m=>by simp [h j _ m (Bk A0)]⟩];rfl
theorem lN{m:BQ->Bool}(h:∀(j:Nat) (y:BQ),j<rows.length->rows[j]?=some y->m y=false):Gu m rows=-1:=by
 unfold Gu;rw [Z2.2 fun y hy=>by
  obtain ⟨j,g⟩:=JT hy;exact h j y (D3.1 g).1 g]
 rfl
theorem TZ(g:BQ->Bool)(rows:List BQ):(Gu g rows=-1/\∀y∈rows,g y=false)\/∃(i:Nat) (x:BQ),Gu g rows=(i:Int)/\rows[i]?=some x/\g x=true/\∀(j:Nat) (y:BQ),j<i->rows[j]?=some y->g y=false:=by
 unfold Gu;cases h:rows.findIdx? g with
 |none=>exact .inl ⟨rfl,Z2.1 h⟩
 |some i=>
  obtain ⟨m,h2,z⟩:=Sp.1 h;refine .inr ⟨i,_,V,Bk m,h2,fun j y E hy=>?_⟩;obtain ⟨G,rfl⟩:=D3.1 hy;simpa using z j E
theorem kK(g:k<rs.length)(x:BQ):(BA rs).take (k*10)++BA [x]++(BA rs).drop (k*10+(BA [x]).length)=BA (rs.set k x):=by
 rw [show k*10+(BA [x]).length=(k+1)*10 by rw [BM];simp;omega,GN,MP,<-Di,<-Di,fb,B2 g];simp
theorem Vy{cur:As}(g:CY cur 0 (BA rs))(hx:rs[k]?=some x):k*10+10<=cur.size/\cur.extract (0+k*10) (0+k*10+10)=(BA [x]).toArray:=by
 have J:=(D3.1 hx).1;have I:k*10+10<=cur.size:=by
  have E:=Ja hx 9 AH;have G:=g.get (k*10+9) _ (E.trans B5)
  have:=(LO.1 G).1;omega
 refine ⟨I,?_⟩;apply L5.1;apply S8;intro j;rw [Kf,cU];split
 · rename_i hj
   have m:j<10:=by omega
   have y:=Ja hx j m;obtain ⟨u,z⟩:∃u,(BA [x])[j]?=some u:=⟨_,Bk (by rw [BM];simpa using m)⟩;rw [z]at y;have h2:=g.get _ _ y
   rw [Dd]at h2;rw [Dd,h2];exact z.symm
 · rw [RC]
   show(BA [x]).length<=j;rw [BM];simp only [HI];omega
theorem Lr{j:Nat}(f:BQ->Bool)(hx:rows[j]?=some x):(rows.take (j+1)).filter f=(rows.take j).filter f++(if f x then [x]else []):=by
 rw [Bt hx,Lz];congr 1;rw [ju,kB]
theorem Mt{f:BQ->Bool}(h:∀(j:Nat) (y:BQ),rows[j]?=some y->f y=true):rows.filter f=rows:=List.filter_eq_self.2 fun y hy=>by
 obtain ⟨j,g⟩:=JT hy;exact h j y g
theorem Mo{A B:List AR}(hv:U6 A v rows)(z:Nat)(us:List A3)(U:BQ->Bool)(K:∀(args:As) (w:AD),(callFunc z args).run prog w= .ok (.enter z args) w)(Z:∀x:BQ,BB prog z (.agg #[I4 x.l.t,I4 x.l.k,I4 x.l.v.a,I4 x.l.v.b,I4 x.l.v.c,I4 x.r.t,I4 x.r.k,I4 x.r.v.a,I4 x.r.v.b,I4 x.r.v.c]::us).toArray [B] (.bool (U x))):BB prog 269 #[v,.func (.func z) #[] us.toArray] [A,B] (I4 (Gu U rows)):=by
 have ax:=mL;obtain ⟨p,cap,rfl,⟨hl,af⟩,hg⟩:=id hv;refine Se func269 ntmps269 [0,1] ?_;intro u R;refine A2<|AF Y<|C0 Y<|Zv (AJ HP Y)<|Zm Y<|A6<|AQ<|Zb [8,0,1,7] ?_;refine Av (e0:=[(8,_)]) (fun m e H=>∃(i:Nat),m=rows.length -i/\(i<=rows.length/\∀(j:Nat) (y:BQ),j<i->rows[j]?=some y->U y=false)/\e=[(8,I4 (i:Int))]/\H=[]) (by exact ⟨0,V,⟨CD _,fun j y h=>by omega⟩,V,V⟩) Wp ?_;rintro _ _ _ ⟨i,rfl,⟨hi,E⟩,rfl,rfl⟩;refine A2<|Zv (Ak Y Y)<|A6<|Zq<|Ad Y (fun J=>?_) (fun J=>?_);·
  obtain ⟨x,hx⟩:∃x,rows[i]?=some x:=⟨_,Bk J⟩;obtain ⟨g,off,cur,T,zz,rfl,O,W,I⟩:=hg i x hx;refine B3<|Zq<|AQ<|B7 Y<|AF Y<|A2<|Sk 3 V ?_;refine BN (A9 HP Hi Y Y A0)<|Cj (cs:=[(g,.cells cur T zz)]) (by simp [O]) (A7 (cs:=#[_,_,_,_,_,_,_,_,_,_]) isAgg315 Hi Y A0 I) V rfl<|Xr [_] Y (K) Y V (Z x)<|A6<|Af Y (fun G=>?_) (fun G=>?_);·
   refine B7 Y<|AM Y<|AX<|Zt<|Zt<|AX<|Zt<|AO V results269 Y (by exact ⟨congrArg (Value.int .i64) (lM E hx G).symm,V⟩)
  refine AB<|A8<|Zx<|GP Y Y Y<|HN (by exact ⟨i+1,rfl,⟨by omega,fun j y h1 h2=>by rcases FA j i with h9|h9;exact E j y h9 h2;obtain rfl:j=i:=A0;rw [hx]at h2;injection h2 with h2;subst h2;exact G⟩,rfl,rfl⟩)
 have X:i=rows.length:=by omega
 subst X;refine Az<|Zt<|Zt<|AU<|BT<|AM Y<|AO V results269 Y (by exact ⟨congrArg (Value.int .i64) (lN E).symm,V⟩)
set_option maxHeartbeats 1000000 in
theorem XP{B:List AR}(E:BS 10 315 v rows.length (BA rows) s)(hn:rows.length<=1000000000)(I:Nat)(us:List A3)(O:BQ->Bool)(ax:∀(args:As) (w:AD),(callFunc I args).run prog w= .ok (.enter I args) w)(hf:∀x:BQ,BB prog I (.agg #[I4 x.l.t,I4 x.l.k,I4 x.l.v.a,I4 x.l.v.b,I4 x.l.v.c,I4 x.r.t,I4 x.r.k,I4 x.r.v.a,I4 x.r.v.b,I4 x.r.v.c]::us).toArray [B] (.bool (O x))):CJ prog 277 #[v,.func (.func I) #[] us.toArray] [s,B] (fun r H'=>∃s',BS 10 315 r (rows.filter fun x=>!O x).length (BA (rows.filter fun x=>!O x)) s'/\H'=[s',B]):=by
 have o9:=mL;obtain ⟨p,cap,rfl⟩:=E.form;have hU:=O4 E A0
 refine Se func277 ntmps277 [0,1] ?_;intro u R;refine A2<|AF Y<|A2<|Sk 2 V<|Xr [_,_] Y call269 Y V (Mo hU I us O ax hf) ?_;rcases TZ O rows with⟨e9,U⟩|⟨k,x0,e9,hx0,hp0,hno⟩
 ·
  rw [e9];refine AF Y<|C0 Y<|Zv (Bd Y Y)<|A6<|Ad Y (fun h1=>?_) (fun h1=>?_);·
   refine B7 Y<|AM Y<|Zt<|AO rfl results277 Y (by exact ⟨_,BJ E (congrArg List.length (Mt fun j y hy=>by rw [U y (Fm hy)];rfl).symm) (congrArg BA (Mt fun j y hy=>by rw [U y (Fm hy)];rfl).symm),rfl⟩)
  exact absurd V h1
 rw [e9];have o8:=(D3.1 hx0).1
 obtain ⟨g,gy,cur,z,gq,rfl,l8,kz⟩:=EG E A0;injection gq with hv1 hv2 hv3
 subst hv1 hv3;refine AF Y<|C0 Y<|Zv (Bd Y Y)<|A6<|Ad Y (fun h2=>by omega)<|fun h2=>B3<|C0 Y<|Ya (n:=1) Y Y<|AF Y<|AQ<|Zb [5,6,0,1] ?_;refine Av (e0:=[(5,_),(6,_)]) (fun m e H=>∃(i j:Nat) (W:List BQ) (cur:As),m=rows.length -j/\((i<j/\j<=rows.length)/\W.length=rows.length/\BS 10 315 (I6 g rows.length cap) rows.length (BA W) [(g,.cells cur 315 z)]/\W.take i=(rows.take j).filter (fun x=>!O x)/\∀t,j<=t->W[t]?=rows[t]?)/\e=[(5,I4 (i:Int)),(6,I4 (j:Int))]/\H=[[(g,.cells cur 315 z)]]) (by exact ⟨k,k+1,rows,cur,rfl,⟨⟨by omega,by omega⟩,rfl,E,by rw [Lr _ hx0,hp0];simp only [S2,PC,LN,HT];exact (Mt (fun j y hy=>by rw [I3]at hy;split at hy;rw [hno j y Xs hy];rfl;cases hy)).symm,fun t _=>rfl⟩,rfl,rfl⟩) Wp ?_;rintro _ _ _ ⟨i,j,W,cur,rfl,⟨mR,af,K,J,Z⟩,rfl,rfl⟩;obtain ⟨cu,bf,l9,kv,X⟩:=KQ K;refine Zq<|A2<|Sk 2 V<|Zv (AJ HP Y)<|Zv (Ak Y Y)<|A6<|Ad Y (fun cO=>?_) (fun cO=>?_);·
  obtain ⟨x,hx⟩:∃x,rows[j]?=some x:=⟨_,Bk cO⟩;obtain ⟨lv,bn⟩:=Vy cu ((Z j (B4 _)).trans hx);refine B3<|Zq<|AQ<|A2<|Sk 2 V ?_;refine BN (A9 HP Hi Y Y A0)<|Zo Wh (A7 (cs:=#[_,_,_,_,_,_,_,_,_,_]) isAgg315 Hi Y A0 bn)<|Ze (Al ep #[_,_,_,_,_,_,_,_,_,_])<|AE fun bx=>Xe (Xw Hi #[I4 x.l.t,I4 x.l.k,I4 x.l.v.a,I4 x.l.v.b,I4 x.l.v.c,I4 x.r.t,I4 x.r.k,I4 x.r.v.a,I4 x.r.v.b,I4 x.r.v.c])<|A6<|B7 Y<|Zo Wh (A7 (cs:=#[_,_,_,_,_,_,_,_,_,_]) isAgg315 Hi Y BW B5)<|Xr [_] Y (ax) Y V (hf x)<|Zv (CR Y)<|Z0<|Zn [0,1,5,6,7,29] ?_;refine Zx<|Af Y (fun G=>?_) (fun G=>?_);·
   have G:O x=false:=by simpa using G
   have d9:=BJ (xs':=BA (W.set i x)) (Ei (i:=0+i*10) (ys:=BA [x]) K (by rw [BM,BM,HI];omega)) rfl (by rw [Dd];exact kK A0 x);refine A2<|Sk 2 rfl<|Zo Wh (A7 (cs:=#[_,_,_,_,_,_,_,_,_,_]) isAgg315 Hi Y BW B5)<|BN (A9 HP Hi Y Y A0)<|Xe (Ao Hi Y Y Ft Wu (by exact (rfl:_=FE cur (0+i*10) (BA [x]))) DO A0 X)<|A6<|Zg<|Zm Y<|Ya (n:=1) Y Y<|AN Y<|A8<|Zx<|Zg<|Zm Y<|Ya (n:=1) Y Y<|AN Y<|DH (e:=[(5,_),(6,_)]) (h:=by exact ⟨i+1,j+1,W.set i x,_,rfl,⟨by omega,by rw [Hb];exact af,d9,by rw [Y1 A0,J,Lr _ hx];simp [G],fun t ht=>by rw [List.getElem?_set_ne A0];exact Z t A0⟩,rfl,rfl⟩)
  have G:O x=true:=by simpa using G
  refine AB<|A8<|Zx<|Zg<|Zm Y<|Ya (n:=1) Y Y<|AN Y<|DH (e:=[(5,_),(6,_)]) (h:=by exact ⟨i,j+1,W,cur,rfl,⟨by omega,af,K,by rw [J,Lr _ hx];simp [G],fun t ht=>Z t A0⟩,rfl,rfl⟩)
 have ej:j=rows.length:=by omega
 subst ej;rw [HJ]at J;have gm:(rows.filter fun x=>!O x).length=i:=by rw [<-J,CI];omega
 refine Az<|Zt<|Zt<|AU<|BT<|Sk 2 V ?_;refine BN (Bv HP Hi Y Y A0)<|Ze (Oa HP (V:Tryz.prog.info? 315=some Tryz.t315) V rfl (by simp [Value.cells,Value.oneCell']) Y A0 bf X Wo) ?_;rintro _ _ rfl;have ek:=V5 (Ei (i:=i*10) (ys:=(Builtin.zeroCells (Value.agg #[I4 0,I4 0,I4 0,I4 0,I4 0,I4 0,I4 0,I4 0,I4 0,I4 0]).cells (rows.length -i)).toList) K (by rw [TO,size_zeroCells,BM];show i*10+(rows.length -i)*10<=_;omega)) i A0
 refine A6<|A2<|Sk 2 V ?_;refine BN (Bb HP Hi Y Y A0)<|AM Y<|AO V results277 Y (by
  refine ⟨_,BJ ek gm.symm ?_,V⟩;rw [G0,L7 (by rw [CI,BM];omega),GN,J])
theorem lL{A Y D:List A3}(g:A.length=(n+1)*10)(hi:i<=n)(y:Y.length=10)(m:D.length=(n -i)*10):(A.take (0+i*10)++Y++A.drop (0+i*10+Y.length)).take (0+(i+1)*10)++D++(A.take (0+i*10)++Y++A.drop (0+i*10+Y.length)).drop (0+(i+1)*10+D.length)=A.take (i*10)++Y++D:=by
 rw [Dd,Dd,L7 (by rw [C7,CI];omega),S3 (by simp only [C7,CI,D4];omega),HT]
theorem eQ{A Y D:List A3}(g:A.length=(n+1)*10)(hi:i<=n)(y:Y.length=10)(m:D.length=(n -i)*10):(A.take (0+(i+1)*10)++D++A.drop (0+(i+1)*10+D.length)).take (0+i*10)++Y++(A.take (0+(i+1)*10)++D++A.drop (0+(i+1)*10+D.length)).drop (0+i*10+Y.length)=A.take (i*10)++Y++D:=by
 rw [Dd,Dd,S3 (l:=A) A0,HT,aw (by rw [CI];omega),Wc,OR A0,SJ (by rw [CI];omega)]
theorem Uy(rows:List BQ)(i:Nat)(y:BQ):(BA rows).take (i*10)++BA [y]++BA (rows.drop i)=BA (rows.take i++[y]++rows.drop i):=by
 rw [GN,Di,Di]
theorem R6{c:As}(h:CY c 0 (BA rows))(i:Nat)(hi:i<=rows.length):CY c (0+i*10) (BA (rows.drop i)):=by
 have g:=Jg h (i*10) ((rows.length -i)*10) (by rw [BM];omega);rw [MP,Hx (by rw [BM,D4];omega)]at g;exact g
theorem aV{c:As}(h:CY c 0 (BA rows))(i:Nat)(hi:i<=rows.length):CY c 0 (BA (rows.take i)):=by
 have g:=Jg h 0 (i*10) (by rw [BM];omega);rw [RR,GN]at g;exact g
theorem TW(rows:List BQ)(i:Nat)(hi:i<=rows.length)(y:BQ):(rows.take i++[y]++rows.drop i).length=rows.length+1:=by
 simp only [C7,CI,D4,HI];omega
set_option maxHeartbeats 1000000 in
theorem XI(m:BS 10 315 v rows.length (BA rows) s)(hn:rows.length<=1000000000)(i:Nat)(hi:i<=rows.length)(y:BQ)(O:Nat):CJ prog 279 #[v,I4 (i:Int),I6 O 1 1] [s,[(O,.cells #[I4 y.l.t,I4 y.l.k,I4 y.l.v.a,I4 y.l.v.b,I4 y.l.v.c,I4 y.r.t,I4 y.r.k,I4 y.r.v.a,I4 y.r.v.b,I4 y.r.v.c] 315 (0,0))]] (fun r H'=>∃s' s2,BS 10 315 r (rows.take i++[y]++rows.drop i).length (BA (rows.take i++[y]++rows.drop i)) s'/\H'=[s',s2,[(O,.cells #[I4 y.l.t,I4 y.l.k,I4 y.l.v.a,I4 y.l.v.b,I4 y.l.v.c,I4 y.r.t,I4 y.r.k,I4 y.r.v.a,I4 y.r.v.b,I4 y.r.v.c] 315 (0,0))]]):=by
 have mR:=mL;obtain ⟨p,cap,rfl⟩:=m.form;have lv:=Ew m
 refine Se func279 ntmps279 [0,1,2] ?_;intro u R;refine A2<|CT Y<|Bi<|Zg<|Sk 2 V ?_;refine BN (Bv HP Hi Y Y A0)<|A6<|B7 Y<|Zv (AJ HP Y)<|AF Y<|C0 Y<|Zv (Bg (n:=0) Y Y)<|A6<|Ad Y (fun h0=>by cases h0)<|fun h0=>B3<|B7 Y<|Zv (AJ HP Y)<|CT Y<|A2<|Sk 2 V<|Zv (Bg Y Y)<|Z0<|Zn [0,1,2,7,8,22] ?_;refine Zx<|Ad Y (fun U=>?_) (fun U=>?_);·
  refine A2<|Sk 2 V ?_;refine Ze (BL (by_:=80) (sz:=10) HP (V:Tryz.prog.info? 315=some Tryz.t315) V rfl V rfl Y (m) Y (D7 10 O 1 1 315 (0,0) (BA [y]) V) Wo Wo (by exact F7 _) A0 A0) ?_;rintro _ _ ⟨o8,K,rfl⟩;obtain ⟨kz,kv,rfl⟩:=K.form;refine AM Y<|Zt<|AO V results279 Y (by
   have U:i=rows.length:=by omega
   subst U;exact ⟨_,[],BJ K (TW rows _ (B4 _) y).symm (by rw [HJ,mc,HT,Di]),rfl⟩)
 obtain ⟨g,cu,cur,z,bf,rfl,gy,G⟩:=EG m A0;injection bf with hv1 hv2 hv3
 subst hv1 hv3;obtain ⟨_,l9,_,l8,X⟩:=KQ m;refine B3<|Zq<|A2<|Sk 2 V<|Ya Y Y<|Zm Y<|Zv (Qz HP Y)<|Zv (CW Y Y)<|A6<|Ad Y (fun hg=>?_) (fun hg=>?_);·
  refine A2<|Sk 2 V ?_;refine BN (Bb HP Hi Y Y A0)<|Sk 2 V<|Ya Y Y<|Zm Y<|Yb Y Y ?_;refine Ze (M8 (by_:=80) (sz:=10) (xs:=BA (rows.take i)) HP Ge (rfl:Tryz.prog.info? 315=some Tryz.t315) rfl rfl rfl rfl Y Y Wh (aV G i hi) (by rw [BM,CI];omega) A0 AH A0 A0 A0) ?_;rintro _ _ ⟨s9,I,rfl⟩;rw [show i+(rows.length+1 -i)=rows.length+1 by omega]at I;have E:=I.1
  obtain ⟨g3,bn,cO,z3,rfl,rfl,gq,gm⟩:=EG I A0;obtain ⟨_,ek,_,d9,J⟩:=KQ I;refine AN Y<|Zn [0,1,2,7,9] ?_;refine BT<|Sk 2 V ?_
  (refine BN (CO HP Hi Y Y ?_ ?_) ?_;(focus (omega));(focus (omega)))
  refine Zm Y<|Xe (KJ (cs:=BA [y]) HP Hi Y Y Wh Wo ((rfl:CY (#[I4 y.l.t,I4 y.l.k,I4 y.l.v.a,I4 y.l.v.b,I4 y.l.v.c,I4 y.r.t,I4 y.r.k,I4 y.r.v.a,I4 y.r.v.b,I4 y.r.v.c]:As) 0 (BA [y]))) (by rw [BM,HI];omega) (by rw [BM,HI];omega) (J) (F7 _)) ?_;refine A6<|Zq<|Au (n:=9) (0::0::0::6::15::0::0::96::255::[]) 256 AG AG V<|A1 0 V (AA Y)<|A1 1 V (AA Y)<|A1 2 V (AA Y)<|A1 3 V (Ce Y Y A0) ?_
  (refine Dr (D':=31) 4 (CO HP Hi Y Y ?_ ?_) ?_;(focus (omega));(focus (omega)))
  refine A1 5 V (AA Y)<|A1 6 V (AA Y) ?_
  (refine Dr (D':=255) 7 (CO HP Hi Y Y ?_ ?_) ?_;(focus (omega));(focus (omega)))
  refine Yw 8 511 rfl (KJ (cs:=BA (rows.drop i)) HP Hi Y Y Wh Wo (R6 G i hi) (by rw [BM,D4];omega) (by rw [BM,D4,H8 (by rw [BM,HI];omega)];omega) (by rw [H8 (by rw [BM,HI];omega)];exact J) (F7 _))<|DA<|Am<|Zn [9] ?_;refine Zx<|B7 Y<|AM Y<|Zt<|AO V results279 Y (by
   refine ⟨_,[(g,.cells cur 315 z)],BJ (Ei (i:=0+(i+1)*10) (ys:=BA (rows.drop i)) (Ei (i:=0+i*10) (ys:=BA [y]) I (by rw [E,BM,HI];omega)) ?_) (TW rows i hi y).symm ?_,rfl⟩;· simp only [C7,CI,D4,E,BM,HI];omega
   · rw [lL E hi (by rw [BM];rfl) (by rw [BM,D4]),L7 (by rw [BM,CI];omega),<-GN,Uy])
 refine B3<|Zq ?_;obtain ⟨o9,ax,af⟩:=V4 m (rows.length+1) A0 A0;have E:=af.1
 refine Zg<|Sk 3 V<|Ya Y Y ?_;refine BN (Bb HP Hi Y Y A0)<|CT Y<|Zq<|xW (s1:=[(O,_)]) (s2:=[(g,_)]) (a:=O) (b:=g) Wo Wo (HA.2 V) (HA.2 V) (fun Z=>?_);refine Zg<|Sk 4 V<|Ya Y Y ?_
 (refine BN (CO HP Hi Y Y ?_ ?_) ?_;(focus (omega));(focus (omega)))
 refine Cj (cs:=[(O,.cells #[I4 y.l.t,I4 y.l.k,I4 y.l.v.a,I4 y.l.v.b,I4 y.l.v.c,I4 y.r.t,I4 y.r.k,I4 y.r.v.a,I4 y.r.v.b,I4 y.r.v.c] 315 (0,0)),(g,.cells cur 315 z)]) C4 (T9 (tR:=4) func283 AG AG AG AG HP Hi Y Z A0) V rfl ?_;refine Zv (CR Y)<|Z0<|Zn [0,1,2,7,8,68] ?_;refine Zx<|Af Y (fun W=>?_) (fun W=>?_);·
  refine Zq<|Au (n:=9) (0::0::0::6::15::0::0::96::255::[]) 256 AG AG V<|A1 0 V (AA Y)<|A1 1 V (AA Y)<|A1 2 V (AA Y)<|A1 3 V (Ce Y Y A0) ?_
  (refine Dr (D':=31) 4 (CO HP Hi Y Y ?_ ?_) ?_;(focus (omega));(focus (omega)))
  refine A1 5 V (AA Y)<|A1 6 V (AA Y) ?_
  (refine Dr (D':=255) 7 (CO HP Hi Y Y ?_ ?_) ?_;(focus (omega));(focus (omega)))
  refine Yw 8 511 rfl (KJ (cs:=BA (rows.drop i)) HP Hi Y Y Wh Wo (R6 G i hi) (by rw [BM,D4];omega) (by rw [BM,D4];omega) (X) (F7 _))<|DA<|Am<|BT<|Sk 2 V ?_
  (refine BN (CO HP Hi Y Y ?_ ?_) ?_;(focus (omega));(focus (omega)))
  refine Zm Y<|Xe (KJ (cs:=BA [y]) HP Hi Y Y Wh Wo ((rfl:CY (#[I4 y.l.t,I4 y.l.k,I4 y.l.v.a,I4 y.l.v.b,I4 y.l.v.c,I4 y.r.t,I4 y.r.k,I4 y.r.v.a,I4 y.r.v.b,I4 y.r.v.c]:As) 0 (BA [y]))) (by rw [BM,HI];omega) (by rw [BM,HI,H8 (by rw [BM,D4];omega)];omega) (by rw [H8 (by rw [BM,D4];omega)];exact X) (F7 _)) ?_;refine Z0<|Zn [0] ?_;refine Zx<|B7 Y<|AM Y<|Zt<|AO V results279 Y (by
   refine ⟨_,[],BJ (Ei (i:=0+i*10) (ys:=BA [y]) (Ei (i:=0+(i+1)*10) (ys:=BA (rows.drop i)) af (by rw [E,BM,D4];omega)) ?_) (TW rows i hi y).symm ?_,rfl⟩;· simp only [C7,CI,D4,BM,ax,HI];omega
   · rw [eQ E hi (by rw [BM];rfl) (by rw [BM,D4]),aw (by rw [BM];omega),Uy])
 cases W
end Go.Proofs.YtljkoipiekbijaaGreatDoor
