/- query.Valid. -/
/- predicate.effectOf, kinds, Touches. -/
import Derived.Test.YtkdgffcfmgmemaaGreatDoorEz
import Derived.Test.YtkdgffcfmgmemaaGreatDoorQe1
import Derived.Test.YtkdgffcfmgmemaaGreatDoorEx26
set_option linter.unusedVariables false
set_option linter.unusedSimpArgs false
namespace Go.Proofs.YtkdgffcfmgmemaaGreatDoor
open Go.Proofs.Tryz
open Go Go.RowKit Gw
set_option maxRecDepth 100000
attribute [local irreducible] Gw.At Gw.Nx Gw.Ops
def Er(q:QM):Prop:=(0≤q.tb∧q.tb≤3)∧(0≤q.cl∧q.cl≤3)∧(-1000000000≤q.lo∧q.lo≤q.hi∧q.hi≤1000000000)
instance(q:QM):Decidable (Er q):=by unfold Er;infer_instance
def Nk(q:QM):Prop:=1≤q.bq∧q.bq≤3
instance(q:QM):Decidable (Nk q):=by unfold Nk;infer_instance
theorem qN{q:QM}(h:q.kd=1):BP q↔Er q∧q.cl=0∧q.lo=q.hi∧(1≤q.lo∧q.lo≤1000000)∧q.bq=0∧q.ot=0:=by unfold BP Er;omega
theorem qM{q:QM}(h:q.kd=2∨q.kd=3):BP q↔Er q∧q.bq=0∧q.ot=0:=by unfold BP Er;omega
theorem qL{q:QM}(h:q.kd=4∨q.kd=5∨q.kd=6):BP q↔Er q∧Nk q∧q.ot=0:=by unfold BP Er Nk;omega
theorem qK{q:QM}(h:q.kd=7):BP q↔Er q∧(0≤q.ot∧q.ot≤3)∧Nk q:=by unfold BP Er Nk;omega
theorem Ti{q:QM}(h:q.kd=1):decide (BP q)=decide (Er q∧q.cl=0∧q.lo=q.hi∧(1≤q.lo∧q.lo≤1000000)∧q.bq=0∧q.ot=0):=decide_eq_decide.2 (qN h)
theorem rP{q:QM}(h:q.kd=2∨q.kd=3):decide (BP q)=decide (Er q∧q.bq=0∧q.ot=0):=decide_eq_decide.2 (qM h)
theorem rO{q:QM}(h:q.kd=4∨q.kd=5∨q.kd=6):decide (BP q)=decide (Er q∧Nk q∧q.ot=0):=decide_eq_decide.2 (qL h)
theorem oH{q:QM}(h:q.kd=7):decide (BP q)=decide (Er q∧(0≤q.ot∧q.ot≤3)∧Nk q):=decide_eq_decide.2 (qK h)
theorem SG{q:QM}(h:¬q.kd=1)(h7:¬q.kd=7)(h4:¬q.kd=4)(h5:¬q.kd=5)(h6:¬q.kd=6)(h2:¬q.kd=2)(h3:¬q.kd=3):¬BP q:=by unfold BP;omega
theorem pU{q:QM}{b0:Bool}(h:q.kd=4∨q.kd=5∨q.kd=6)(hb0:b0=decide (Er q)):((b0&&decide (Nk q))&&decide (q.ot=0))=decide (BP q):=by
 rw [rO h,hb0];simp [Bool.and_assoc]
theorem df{q:QM}{b0:Bool}(h:q.kd=2∨q.kd=3)(hb0:b0=decide (Er q)):((b0&&decide (q.bq=0))&&decide (q.ot=0))=decide (BP q):=by
 rw [rP h,hb0];simp [Bool.and_assoc]
theorem rC{q:QM}{b0:Bool}(h:q.kd=7)(hb0:b0=decide (Er q))(e0:b0=true):((decide (0≤q.ot∧q.ot≤3)&&decide (Nk q))&&decide ((0:Int)=0))=decide (BP q):=by
 have hB:Er q:=of_decide_eq_true (hb0.symm.trans e0);rw [oH h];simp [hB]
theorem rD{q:QM}{b0 x y:Bool}(h:q.kd=7)(hb0:b0=decide (Er q))(e0:b0=false):((false&&x)&&y)=decide (BP q):=by
 have hB:¬Er q:=of_decide_eq_false (hb0.symm.trans e0);rw [oH h];simp [hB]
theorem sM{q:QM}{b:Bool}{z:Int}(hb:((b&&decide (Nk q))&&decide (z=0))=decide (BP q))(e:b=true):((decide (1≤q.bq∧q.bq≤3)&&decide ((0:Int)=0))&&decide (z=0))=decide (BP q):=by
 rw [←hb,e,show decide (Nk q)=decide (1≤q.bq∧q.bq≤3) from decide_eq_decide.2 Iff.rfl];simp only [xV,decide_true,yQ]
theorem sN{q:QM}{b x y:Bool}{z:Int}(hb:((b&&decide (Nk q))&&decide (z=0))=decide (BP q))(e:b=false):((false&&x)&&y)=decide (BP q):=by
 rw [←hb,e];simp
theorem Je(n lo hi:Int):Av Tryz.prog 113 #[I4 n,I4 lo,I4 hi] [] (.bool (decide (lo≤n∧n≤hi))):=by
 refine Se func113 ntmps113 [0,1,2] ?_;intro u R;refine Zq<|Zg<|Za Y<|Z0<|Zx<|Zq<|Zg<|Zm Y<|Zm Y<|Zv (GZ Y Y)<|Zm Y ?_;refine Aj (t:=10) Y rfl (fun h1=>?_) (fun h1=>?_)
 ·
  refine Zf Y Y<|Zf Y Y<|Yg (Kn Y Y)<|Zv (AL Y Y)<|Za Y<|Z0<|Zx<|A9 ?_;refine AB rfl results113 Y (by exact ⟨by simp [h1],rfl⟩)
 refine A7 Y rfl<|A7 Y rfl<|A7 Y rfl<|Zv (AA Y Y)<|Za Y<|Z0<|Zx<|A9 ?_;refine AB rfl results113 Y (by exact ⟨by simp [h1],rfl⟩)
theorem LY(q:QM):Av Tryz.prog 49 #[.agg #[I4 q.kd,I4 q.tb,I4 q.cl,I4 q.lo,I4 q.hi,I4 q.bq,I4 q.ot]] [] (.bool (decide (BP q))):=by
 refine Se func49 ntmps49 [0] ?_;intro u R;refine Zq<|Zg<|Ze (Bx #[_,_,_,_,_,_,_]) ?_;rintro _ _ ⟨pb,rfl,rfl⟩;refine Za Y<|Z0<|Zx<|Zb [1] ?_;refine CW (e0:=[]) (H0:=[]) (fun e H=>∃(b0:Bool),(b0=decide (Er q))∧e=[(3,.bool b0)]∧H=[]) Wp ?hx_1 ?hy_1
 case hx_1=>
  refine Zg<|Zh 1 underlying30 rfl rfl sizeOf3 Y<|Zl isAgg3 Y ?_;refine Xr [_,_,_] Y call113 Y rfl (Je _ _ _) ?_;refine Zm Y ?_;refine Aj (t:=7) Y rfl (fun a1=>?_) (fun a1=>?_)
  ·
   refine Yf 2 underlying30 rfl rfl sizeOf3 Y<|Yl isAgg3 Y ?_;refine Xr [_,_,_] Y call113 Y rfl (Je _ _ _) ?_;refine Zv (AL Y Y)<|Zm Y ?_;refine Aj (t:=12) Y rfl (fun a2=>?_) (fun a2=>?_)
   ·
    refine Yf 3 underlying30 rfl rfl sizeOf3 Y<|Yl isAgg3 Y ?_;refine Yf 4 underlying30 rfl rfl sizeOf3 Y<|Yl isAgg3 Y ?_;refine Xr [_,_,_] Y call113 Y rfl (Je _ _ _) ?_;refine Zv (AL Y Y)<|Zm Y ?_;refine Aj (t:=19) Y rfl (fun a3=>?_) (fun a3=>?_)
    ·
     refine Yf 4 underlying30 rfl rfl sizeOf3 Y<|Yl isAgg3 Y ?_;refine Yg (Kn Y Y)<|Zv (AL Y Y)<|Za Y<|Z0<|Zn [3,1] ?_;refine BB (e':=[(3,_)]) (by exact ⟨_,by unfold Er;exact decide_eq_decide.2 (by omega),rfl,rfl⟩)
    refine A7 Y rfl<|A7 Y rfl<|A7 Y rfl<|Zv (AA Y Y)<|Za Y<|Z0<|Zn [3,1] ?_;refine BB (e':=[(3,_)]) (by exact ⟨_,by unfold Er;exact (decide_eq_false (by omega)).symm,rfl,rfl⟩)
   refine A7 Y rfl<|A7 Y rfl<|A7 Y rfl<|A7 Y rfl<|A7 Y rfl<|Zv (AA Y Y)<|Zm Y<|A7 Y rfl<|A7 Y rfl<|A7 Y rfl<|Zv (AA Y Y)<|Za Y<|Z0<|Zn [3,1] ?_;refine BB (e':=[(3,_)]) (by exact ⟨_,by unfold Er;exact (decide_eq_false (by omega)).symm,rfl,rfl⟩)
  refine A7 Y rfl<|A7 Y rfl<|A7 Y rfl<|Zv (AA Y Y)<|Zm Y<|A7 Y rfl<|A7 Y rfl<|A7 Y rfl<|A7 Y rfl<|A7 Y rfl<|Zv (AA Y Y)<|Zm Y<|A7 Y rfl<|A7 Y rfl<|A7 Y rfl<|Zv (AA Y Y)<|Za Y<|Z0<|Zn [3,1] ?_;refine BB (e':=[(3,_)]) (by exact ⟨_,by unfold Er;exact (decide_eq_false (by omega)).symm,rfl,rfl⟩)
 rintro _ _ ⟨b0,hb0,rfl,rfl⟩;refine Zq<|Zq<|Zg<|Zh 0 underlying30 rfl rfl sizeOf3 Y<|Zl isAgg3 Y ?_;refine Z0<|Zx<|AQ<|Zb [3,25,1] ?_;refine CW (e0:=[(3,_),(25,_)]) (H0:=[[(pb,_)]]) (fun e H=>∃(b:Bool) (y z:Int),(((b&&decide (y=0))&&decide (z=0))=decide (BP q))∧e=[(3,.bool b)]∧H=[[(pb,.cells #[I4 q.kd,I4 q.tb,I4 q.cl,I4 q.lo,I4 q.hi,I4 y,I4 z] 30 (0,0))]]) Wp ?hx_6 ?hy_6
 case hx_6=>
  refine AQ<|Zb [3,25,1] ?_;refine CW (e0:=[(3,_),(25,_)]) (H0:=[[(pb,_)]]) (fun e H=>∃(b:Bool) (z:Int),(((b&&decide (Nk q))&&decide (z=0))=decide (BP q))∧e=[(3,.bool b)]∧H=[[(pb,.cells #[I4 q.kd,I4 q.tb,I4 q.cl,I4 q.lo,I4 q.hi,I4 q.bq,I4 z] 30 (0,0))]]) Wp ?hx_7 ?hy_7
  case hx_7=>
   refine AQ<|Zq<|AQ<|Zq<|AQ<|Zq<|Zq<|Zq<|Zg<|Zv (CF Y Y)<|Za Y<|Z0<|Zx ?_;refine Ao Y (fun k1=>?_) (fun k1=>?_)
   ·
    refine Ar<|Zt<|Zt<|AO<|Zx<|Zq<|Zq<|Zg<|Zm Y<|Zm Y ?_;refine Ai (t:=38) Y rfl (fun c0=>?_) (fun c0=>?_)
    ·
     have hB:Er q:=of_decide_eq_true (hb0.symm.trans c0);refine Yf 2 underlying30 rfl rfl sizeOf3 Y<|Yl isAgg3 Y ?_;refine Yg (CF Y Y)<|Zv (AL Y Y)<|Zm Y ?_;refine Aj (t:=43) Y rfl (fun c1=>?_) (fun c1=>?_)
     ·
      refine Yf 3 underlying30 rfl rfl sizeOf3 Y<|Yl isAgg3 Y ?_;refine Yf 4 underlying30 rfl rfl sizeOf3 Y<|Yl isAgg3 Y ?_;refine Yg (CF Y Y)<|Zv (AL Y Y)<|Zm Y ?_;refine Aj (t:=50) Y rfl (fun c2=>?_) (fun c2=>?_)
      ·
       refine Yf 3 underlying30 rfl rfl sizeOf3 Y<|Yl isAgg3 Y ?_;refine Xr [_,_,_] Y call113 Y rfl (Je _ _ _) ?_;refine Zv (AL Y Y)<|Zm Y ?_;refine Aj (t:=55) Y rfl (fun c3=>?_) (fun c3=>?_)
       ·
        refine Yf 5 underlying30 rfl rfl sizeOf3 Y<|Yl isAgg3 Y ?_;refine Yg (CF Y Y)<|Zv (AL Y Y)<|Zm Y ?_;refine Aj (t:=60) Y rfl (fun c4=>?_) (fun c4=>?_)
        ·
         refine Yf 6 underlying30 rfl rfl sizeOf3 Y<|Yl isAgg3 Y ?_;refine Yg (CF Y Y)<|Zv (AL Y Y)<|Za Y<|Z0<|Zn [2] ?_;refine Zx<|A9<|Zt<|AY<|Zt<|AY<|Zt<|AY<|Zt<|AY<|Zt ?_;refine AB rfl results49 Y (by exact ⟨by rw [Ti k1];exact congrArg Value.bool (decide_eq_decide.2 ⟨fun h=>⟨hB,by omega⟩,fun h=>by omega⟩),rfl⟩)
        refine A7 Y rfl<|A7 Y rfl<|A7 Y rfl<|Zv (AA Y Y)<|Za Y<|Z0<|Zn [2] ?_;refine Zx<|A9<|Zt<|AY<|Zt<|AY<|Zt<|AY<|Zt<|AY<|Zt ?_;refine AB rfl results49 Y (by exact ⟨by rw [Ti k1];exact congrArg Value.bool (decide_eq_false (fun h=>by first|exact hB h.1|omega)).symm,rfl⟩)
       refine A7 Y rfl<|A7 Y rfl<|A7 Y rfl<|Zv (AA Y Y)<|Zm Y<|A7 Y rfl<|A7 Y rfl<|A7 Y rfl<|Zv (AA Y Y)<|Za Y<|Z0<|Zn [2] ?_;refine Zx<|A9<|Zt<|AY<|Zt<|AY<|Zt<|AY<|Zt<|AY<|Zt ?_;refine AB rfl results49 Y (by exact ⟨by rw [Ti k1];exact congrArg Value.bool (decide_eq_false (fun h=>by first|exact hB h.1|omega)).symm,rfl⟩)
      refine A7 Y rfl<|A7 Y rfl<|A7 Y rfl<|Zv (AA Y Y)<|Zm Y<|A7 Y rfl<|A7 Y rfl<|A7 Y rfl<|Zv (AA Y Y)<|Zm Y<|A7 Y rfl<|A7 Y rfl<|A7 Y rfl<|Zv (AA Y Y)<|Za Y<|Z0<|Zn [2] ?_;refine Zx<|A9<|Zt<|AY<|Zt<|AY<|Zt<|AY<|Zt<|AY<|Zt ?_;refine AB rfl results49 Y (by exact ⟨by rw [Ti k1];exact congrArg Value.bool (decide_eq_false (fun h=>by first|exact hB h.1|omega)).symm,rfl⟩)
     refine A7 Y rfl<|A7 Y rfl<|A7 Y rfl<|A7 Y rfl<|A7 Y rfl<|Zv (AA Y Y)<|Zm Y<|A7 Y rfl<|A7 Y rfl<|A7 Y rfl<|Zv (AA Y Y)<|Zm Y<|A7 Y rfl<|A7 Y rfl<|A7 Y rfl<|Zv (AA Y Y)<|Zm Y<|A7 Y rfl<|A7 Y rfl<|A7 Y rfl<|Zv (AA Y Y)<|Za Y<|Z0<|Zn [2] ?_;refine Zx<|A9<|Zt<|AY<|Zt<|AY<|Zt<|AY<|Zt<|AY<|Zt ?_;refine AB rfl results49 Y (by exact ⟨by rw [Ti k1];exact congrArg Value.bool (decide_eq_false (fun h=>by first|exact hB h.1|omega)).symm,rfl⟩)
    have hB:¬Er q:=of_decide_eq_false (hb0.symm.trans c0);refine A7 Y rfl<|A7 Y rfl<|A7 Y rfl<|Zv (AA Y Y)<|Zm Y<|A7 Y rfl<|A7 Y rfl<|A7 Y rfl<|A7 Y rfl<|A7 Y rfl<|Zv (AA Y Y)<|Zm Y<|A7 Y rfl<|A7 Y rfl<|A7 Y rfl<|Zv (AA Y Y)<|Zm Y<|A7 Y rfl<|A7 Y rfl<|A7 Y rfl<|Zv (AA Y Y)<|Zm Y<|A7 Y rfl<|A7 Y rfl ?_;refine A7 Y rfl<|Zv (AA Y Y)<|Za Y<|Z0<|Zn [2] ?_;refine Zx<|A9<|Zt<|AY<|Zt<|AY<|Zt<|AY<|Zt<|AY<|Zt ?_;refine AB rfl results49 Y (by exact ⟨by rw [Ti k1];exact congrArg Value.bool (decide_eq_false (fun h=>by first|exact hB h.1|omega)).symm,rfl⟩)
   refine AC<|Zx<|Zq<|Zq<|Zg<|Zv (CF Y Y)<|Za Y<|Z0<|Zx ?_;refine Ao Y (fun k7=>?_) (fun k7=>?_)
   ·
    refine Ar<|Zt<|Zt<|Ap rfl<|Zt<|AO<|Zx<|Zq<|Zg<|Zm Y<|Zm Y ?_;refine Ai (t:=66) Y rfl (fun e0=>?_) (fun e0=>?_)
    ·
     refine Yf 6 underlying30 rfl rfl sizeOf3 Y<|Yl isAgg3 Y ?_;refine Xr [_,_,_] Y call113 Y rfl (Je _ _ _) ?_;refine Zv (AL Y Y)<|Za Y<|Z0<|Zx<|Zg<|Zh 6 underlying30 rfl rfl sizeOf3 Y<|Xe (Zs sizeOf3 Y Y rfl) ?_;refine Z0<|Zn [1,3] ?_;refine A8<|Zn [3,1] ?_;refine BB (e':=[(3,_)]) (by exact ⟨_,_,rC k7 hb0 e0,rfl,rfl⟩)
    refine A7 Y rfl<|A7 Y rfl<|A7 Y rfl<|Zv (AA Y Y)<|Za Y<|Z0<|Zx<|Zg<|Zh 6 underlying30 rfl rfl sizeOf3 Y<|Xe (Zs sizeOf3 Y Y rfl) ?_;refine Z0<|Zn [1,3] ?_;refine A8<|Zn [3,1] ?_;refine BB (e':=[(3,_)]) (by exact ⟨_,0,rD k7 hb0 e0,rfl,rfl⟩)
   refine AC<|Zx<|Zq<|Zq<|Zq<|Zg<|Zv (CF Y Y)<|Za Y<|Z0<|Zx ?_;refine Ao Y (fun k4=>?_) (fun k4=>?_)
   ·
    refine AC<|Zx ?_;refine Ao Y (fun k4=>?_) (fun k4=>?_)
    ·
     refine Ar<|Zt<|Zt<|Ap rfl<|Zt<|Ap rfl<|Zt<|AO<|Zn [3,1] ?_;refine BB (e':=[(3,_)]) (by exact ⟨_,_,pU (by omega) hb0,rfl,rfl⟩)
    refine AC<|Zx<|Zq<|Zq<|Zg<|Zv (CF Y Y)<|Za Y<|Z0<|Zx ?_;refine Ao Y (fun k2=>?_) (fun k2=>?_)
    ·
     refine AC<|Zx ?_;refine Ao Y (fun k2=>?_) (fun k2=>?_)
     ·
      refine Ar<|Zt<|Ap rfl<|Zt<|Ap rfl<|Zt<|Ap rfl<|Zt<|AO<|Zn [3,1] ?_;refine BB (e':=[(3,_)]) (by exact ⟨_,_,_,df (by omega) hb0,rfl,rfl⟩)
     refine AC<|Zx<|Ar<|Ap rfl<|Zt<|Ap rfl<|Zt<|Ap rfl<|Zt<|Ap rfl<|Zt<|AO<|Zx<|Zq<|Zg<|Za Y<|Z0<|Zx<|A9 ?_;refine AB rfl results49 Y (by exact ⟨congrArg Value.bool (decide_eq_false (SG k1 k7 (by omega) (by omega) (by omega) (by omega) (by omega))).symm,rfl⟩)
    refine Zg<|Zv (CF Y Y)<|Za Y<|Z0<|Zx ?_;refine Ao Y (fun k2=>?_) (fun k2=>?_)
    ·
     refine Ar<|Zt<|Ap rfl<|Zt<|Ap rfl<|Zt<|Ap rfl<|Zt<|AO<|Zn [3,1] ?_;refine BB (e':=[(3,_)]) (by exact ⟨_,_,_,df (by omega) hb0,rfl,rfl⟩)
    refine AC<|Zx<|Ar<|Ap rfl<|Zt<|Ap rfl<|Zt<|Ap rfl<|Zt<|Ap rfl<|Zt<|AO<|Zx<|Zq<|Zg<|Za Y<|Z0<|Zx<|A9 ?_;refine AB rfl results49 Y (by exact ⟨congrArg Value.bool (decide_eq_false (SG k1 k7 (by omega) (by omega) (by omega) (by omega) (by omega))).symm,rfl⟩)
   refine Zq<|Zg<|Zv (CF Y Y)<|Za Y<|Z0<|Zx ?_;refine Ao Y (fun k4=>?_) (fun k4=>?_)
   ·
    refine AC<|Zx ?_;refine Ao Y (fun k4=>?_) (fun k4=>?_)
    ·
     refine Ar<|Zt<|Zt<|Ap rfl<|Zt<|Ap rfl<|Zt<|AO<|Zn [3,1] ?_;refine BB (e':=[(3,_)]) (by exact ⟨_,_,pU (by omega) hb0,rfl,rfl⟩)
    refine AC<|Zx<|Zq<|Zq<|Zg<|Zv (CF Y Y)<|Za Y<|Z0<|Zx ?_;refine Ao Y (fun k2=>?_) (fun k2=>?_)
    ·
     refine AC<|Zx ?_;refine Ao Y (fun k2=>?_) (fun k2=>?_)
     ·
      refine Ar<|Zt<|Ap rfl<|Zt<|Ap rfl<|Zt<|Ap rfl<|Zt<|AO<|Zn [3,1] ?_;refine BB (e':=[(3,_)]) (by exact ⟨_,_,_,df (by omega) hb0,rfl,rfl⟩)
     refine AC<|Zx<|Ar<|Ap rfl<|Zt<|Ap rfl<|Zt<|Ap rfl<|Zt<|Ap rfl<|Zt<|AO<|Zx<|Zq<|Zg<|Za Y<|Z0<|Zx<|A9 ?_;refine AB rfl results49 Y (by exact ⟨congrArg Value.bool (decide_eq_false (SG k1 k7 (by omega) (by omega) (by omega) (by omega) (by omega))).symm,rfl⟩)
    refine Zg<|Zv (CF Y Y)<|Za Y<|Z0<|Zx ?_;refine Ao Y (fun k2=>?_) (fun k2=>?_)
    ·
     refine Ar<|Zt<|Ap rfl<|Zt<|Ap rfl<|Zt<|Ap rfl<|Zt<|AO<|Zn [3,1] ?_;refine BB (e':=[(3,_)]) (by exact ⟨_,_,_,df (by omega) hb0,rfl,rfl⟩)
    refine AC<|Zx<|Ar<|Ap rfl<|Zt<|Ap rfl<|Zt<|Ap rfl<|Zt<|Ap rfl<|Zt<|AO<|Zx<|Zq<|Zg<|Za Y<|Z0<|Zn [2] ?_;refine Zx<|A9 ?_;refine AB rfl results49 Y (by exact ⟨congrArg Value.bool (decide_eq_false (SG k1 k7 (by omega) (by omega) (by omega) (by omega) (by omega))).symm,rfl⟩)
   refine Zg<|Zv (CF Y Y)<|Za Y<|Z0<|Zx ?_;refine Ao Y (fun k4=>?_) (fun k4=>?_)
   ·
    refine Ar<|Zt<|Zt<|Ap rfl<|Zt<|Ap rfl<|Zt<|AO<|Zn [3,1] ?_;refine BB (e':=[(3,_)]) (by exact ⟨_,_,pU (by omega) hb0,rfl,rfl⟩)
   refine AC<|Zx<|Zq<|Zq<|Zg<|Zv (CF Y Y)<|Za Y<|Z0<|Zx ?_;refine Ao Y (fun k2=>?_) (fun k2=>?_)
   ·
    refine AC<|Zx ?_;refine Ao Y (fun k2=>?_) (fun k2=>?_)
    ·
     refine Ar<|Zt<|Ap rfl<|Zt<|Ap rfl<|Zt<|Ap rfl<|Zt<|AO<|Zn [3,1] ?_;refine BB (e':=[(3,_)]) (by exact ⟨_,_,_,df (by omega) hb0,rfl,rfl⟩)
    refine AC<|Zx<|Ar<|Ap rfl<|Zt<|Ap rfl<|Zt<|Ap rfl<|Zt<|Ap rfl<|Zt<|AO<|Zx<|Zq<|Zg<|Za Y<|Z0<|Zn [2] ?_;refine Zx<|A9 ?_;refine AB rfl results49 Y (by exact ⟨congrArg Value.bool (decide_eq_false (SG k1 k7 (by omega) (by omega) (by omega) (by omega) (by omega))).symm,rfl⟩)
   refine Zg<|Zv (CF Y Y)<|Za Y<|Z0<|Zn [1,3,34] ?_;refine Zx ?_;refine Ao Y (fun k2=>?_) (fun k2=>?_)
   ·
    refine Ar<|Zt<|Ap rfl<|Zt<|Ap rfl<|Zt<|Ap rfl<|Zt<|AO<|Zn [3,1] ?_;refine BB (e':=[(3,_)]) (by exact ⟨_,_,_,df (by omega) hb0,rfl,rfl⟩)
   refine AC<|Zx<|Ar<|Ap rfl<|Zt<|Ap rfl<|Zt<|Ap rfl<|Zt<|Ap rfl<|Zt<|AO<|Zx<|Zq<|Zg<|Za Y<|Z0<|Zx<|A9 ?_;refine AB rfl results49 Y (by exact ⟨congrArg Value.bool (decide_eq_false (SG k1 k7 (by omega) (by omega) (by omega) (by omega) (by omega))).symm,rfl⟩)
  rintro _ _ ⟨b,z,hb,rfl,rfl⟩;refine Zq<|Zg<|Zm Y<|Zm Y ?_;refine Ai (t:=73) Y rfl (fun f0=>?_) (fun f0=>?_)
  ·
   refine Yf 5 underlying30 rfl rfl sizeOf3 Y<|Yl isAgg3 Y ?_;refine Xr [_,_,_] Y call113 Y rfl (Je _ _ _) ?_;refine Zv (AL Y Y)<|Za Y<|Z0<|Zx<|Zg<|Zh 5 underlying30 rfl rfl sizeOf3 Y<|Xe (Zs sizeOf3 Y Y rfl) ?_;refine Z0<|A8<|Zn [3,1] ?_;refine BB (e':=[(3,_)]) (by exact ⟨_,_,_,sM hb f0,rfl,rfl⟩)
  refine A7 Y rfl<|A7 Y rfl<|A7 Y rfl<|Zv (AA Y Y)<|Za Y<|Z0<|Zx<|Zg<|Zh 5 underlying30 rfl rfl sizeOf3 Y<|Xe (Zs sizeOf3 Y Y rfl) ?_;refine Z0<|A8<|Zn [3,1] ?_;refine BB (e':=[(3,_)]) (by exact ⟨_,0,z,sN hb f0,rfl,rfl⟩)
 rintro _ _ ⟨b,y,z,hb,rfl,rfl⟩;refine Zq<|Zq<|Zg<|Zm Y<|Zm Y ?_;refine Ai (t:=80) Y rfl (fun g0=>?_) (fun g0=>?_)
 ·
  refine Yf 5 underlying30 rfl rfl sizeOf3 Y<|Yl isAgg3 Y ?_;refine Yg (CF Y Y)<|Zv (AL Y Y)<|Zm Y ?_;refine Aj (t:=85) Y rfl (fun g1=>?_) (fun g1=>?_)
  ·
   refine Yf 6 underlying30 rfl rfl sizeOf3 Y<|Yl isAgg3 Y ?_;refine Yg (CF Y Y)<|Zv (AL Y Y)<|Za Y<|Z0<|Zx<|A9<|Zt<|AY<|Zt ?_;refine AB rfl results49 Y (by exact ⟨by rw [←hb];simp [*],rfl⟩)
  refine A7 Y rfl<|A7 Y rfl<|A7 Y rfl<|Zv (AA Y Y)<|Za Y<|Z0<|Zx<|A9<|Zt<|AY<|Zt ?_;refine AB rfl results49 Y (by exact ⟨by rw [←hb];simp [*],rfl⟩)
 refine A7 Y rfl<|A7 Y rfl<|A7 Y rfl<|Zv (AA Y Y)<|Zm Y<|A7 Y rfl<|A7 Y rfl<|A7 Y rfl<|Zv (AA Y Y)<|Za Y<|Z0<|Zx<|A9<|Zt<|AY<|Zt ?_;refine AB rfl results49 Y (by exact ⟨by rw [←hb];simp [*],rfl⟩)
def IE(p:Option Addr)(o:Option AP)(s:List AR):Prop:=match o with
 |none=>p=none∧s=[]
 |some r=>∃b,p=some ⟨b,0,none⟩∧s=[(b,.cells #[I4 r.t,I4 r.k,I4 r.v.a,I4 r.v.b,I4 r.v.c] 113 (0,0))]
theorem IE.some_{p:Option Addr}{o:Option AP}{s:List AR}(h:IE p o s):p.isSome=o.isSome:=by
 cases o with
 |none=>rw [h.1];rfl
 |some r=>obtain ⟨b,rfl,_⟩:=h;rfl
theorem WR(q:QM)(c:Chg)(th:Bool)(v:V3):Hq q th (EK c th v)=Hq q th ⟨c.t,c.k,v⟩:=by
 cases th with
 |false=>rfl
 |true=>rfl
theorem UM{q:QM}{b:Bool}{r:AP}(h:b=false∨¬(r.t=q.tb∧q.lo≤Be r q.cl∧Be r q.cl≤q.hi)):Hq q b r=none:=by
 unfold Hq inQ;rcases h with h|h
 · rw [h];rfl
 · rw [decide_eq_false h,Bool.and_false];rfl
theorem mK{q:QM}{b:Bool}{r:AP}(h:b=true)(h2:r.t=q.tb∧q.lo≤Be r q.cl∧Be r q.cl≤q.hi):Hq q b r=some r:=by
 unfold Hq inQ;rw [h,decide_eq_true h2];rfl
theorem Gm:I8 Tryz.prog 3 (fun k:Int=>I4 k) (fun _=>True):=ja underlying3
theorem Mx(q:QM)(hcl:0≤q.cl∧q.cl≤3)(hbq:0≤q.bq∧q.bq≤3)(bq:Nat)(r:AP)(b:Bool):CO Tryz.prog 177 #[.agg #[I4 r.t,I4 r.k,I4 r.v.a,I4 r.v.b,I4 r.v.c],.bool b,I5 bq] [[(bq,.cells #[I4 q.kd,I4 q.tb,I4 q.cl,I4 q.lo,I4 q.hi,I4 q.bq,I4 q.ot] 30 (0,0))]] (fun v H'=>∃p s,v= .tuple #[.pointer p,I4 (mQ q (Hq q b r))]∧IE p (Hq q b r) s∧H'=[s,[(bq,.cells #[I4 q.kd,I4 q.tb,I4 q.cl,I4 q.lo,I4 q.hi,I4 q.bq,I4 q.ot] 30 (0,0))]]):=by
 refine Se func177 ntmps177 [0,1,2] ?_;intro u R;refine Zq<|Zg<|Ze (Bx #[_,_,_,_,_]) ?_;rintro _ _ ⟨bx,rfl,rfl⟩;refine Za Y<|Za Y<|Z0<|Zx<|Zq<|Zg<|Zo Wh (Pa #[_,_,_,_,_] isAgg113 sizeOf113 Y) ?_;refine Zh 2 underlying30 rfl rfl sizeOf3 Y<|Zl isAgg3 Y ?_;refine Xr [_,_] Y call97 Y rfl (FQ r q.cl hcl) ?_;refine Za Y<|Z0<|Zx<|Zq<|Zq<|Zg<|Zm Y<|Zv (Ca Y)<|Zm Y ?_;refine Ai (t:=14) Y rfl (fun h1=>?_) (fun h1=>?_)
 ·
  refine A7 Y rfl<|A7 Y rfl<|A7 Y rfl<|A7 Y rfl<|A7 Y rfl<|Zv (AL Y Y)<|Zm Y<|A7 Y rfl<|A7 Y rfl<|A7 Y rfl<|A7 Y rfl<|Zv (AL Y Y)<|Zm Y<|A7 Y rfl<|A7 Y rfl<|A7 Y rfl<|A7 Y rfl<|Zv (AL Y Y)<|Z0<|Zn [2,3,32] ?_;refine Zx<|CE Y<|Zq<|Bd ?_;refine Zg<|Za Y<|Za Y<|Z0<|Zx<|A9<|Zt ?_;refine Da rfl results177 Y Y (by
   have e9:Hq q b r=none:=UM (by exact .inl (by simpa using h1));exact ⟨none,[],by rw [e9];rfl,by rw [e9];exact ⟨rfl,rfl⟩,rfl⟩)
 refine Yf 0 underlying113 rfl rfl sizeOf3 Y<|Yl isAgg3 Y ?_;refine Yf 1 underlying30 rfl rfl sizeOf3 Y<|Yl isAgg3 Y ?_;refine Yg (IL Y Y)<|Zv (AA Y Y)<|Zm Y ?_;refine Aj (t:=21) Y rfl (fun h2=>?_) (fun h2=>?_)
 ·
  refine A7 Y rfl<|A7 Y rfl<|A7 Y rfl<|A7 Y rfl<|Zv (AL Y Y)<|Zm Y<|A7 Y rfl<|A7 Y rfl<|A7 Y rfl<|A7 Y rfl<|Zv (AL Y Y)<|Z0<|Zn [2,3,32] ?_;refine Zx<|CE Y<|Zq<|Bd ?_;refine Zg<|Za Y<|Za Y<|Z0<|Zx<|A9<|Zt ?_;refine Da rfl results177 Y Y (by
   have e9:Hq q b r=none:=UM (by exact .inr (by omega));exact ⟨none,[],by rw [e9];rfl,by rw [e9];exact ⟨rfl,rfl⟩,rfl⟩)
 refine Zf Y Y<|Yf 3 underlying30 rfl rfl sizeOf3 Y<|Yl isAgg3 Y ?_;refine Yg (Eb Y Y)<|Zv (AA Y Y)<|Zm Y ?_;refine Aj (t:=27) Y rfl (fun h3=>?_) (fun h3=>?_)
 ·
  refine A7 Y rfl<|A7 Y rfl<|A7 Y rfl<|A7 Y rfl<|Zv (AL Y Y)<|Z0<|Zn [2,3,32] ?_;refine Zx<|CE Y<|Zq<|Bd ?_;refine Zg<|Za Y<|Za Y<|Z0<|Zx<|A9<|Zt ?_;refine Da rfl results177 Y Y (by
   have e9:Hq q b r=none:=UM (by exact .inr (by omega));exact ⟨none,[],by rw [e9];rfl,by rw [e9];exact ⟨rfl,rfl⟩,rfl⟩)
 refine Zf Y Y<|Yf 4 underlying30 rfl rfl sizeOf3 Y<|Yl isAgg3 Y ?_;refine Yg (Es Y Y)<|Zv (AA Y Y)<|Z0<|Zn [2,3,32] ?_;refine Zx ?_;refine Ao Y (fun h4=>?_) (fun h4=>?_)
 ·
  refine Zq<|Bd ?_;refine Zg<|Za Y<|Za Y<|Z0<|Zx<|A9<|Zt ?_;refine Da rfl results177 Y Y (by
   have e9:Hq q b r=none:=UM (by exact .inr (by omega));exact ⟨none,[],by rw [e9];rfl,by rw [e9];exact ⟨rfl,rfl⟩,rfl⟩)
 refine AC<|Zx<|Zq<|Zg<|Zo Wh (Pa #[_,_,_,_,_] isAgg113 sizeOf113 Y) ?_;refine Zh 5 underlying30 rfl rfl sizeOf3 Y<|Zl isAgg3 Y ?_;refine Xr [_,_] Y call97 Y rfl (FQ r q.bq hbq) ?_;refine Za Y<|Za Y<|Z0<|Zx<|A9 ?_;refine Da rfl results177 Y Y (by
  have e9:Hq q b r=some r:=mK (by simpa using h1) (by omega);exact ⟨_,_,by rw [e9];rfl,by rw [e9];exact ⟨bx,rfl,rfl⟩,rfl⟩)
theorem bA(c:Chg):Av Tryz.prog 178 #[.agg #[I4 c.t,I4 c.k,.bool c.had,I4 c.o.a,I4 c.o.b,I4 c.o.c,.bool c.has,I4 c.n.a,I4 c.n.b,I4 c.n.c]] [] (.tuple #[.agg #[I4 (EK c c.had c.o).t,I4 (EK c c.had c.o).k,I4 (EK c c.had c.o).v.a,I4 (EK c c.had c.o).v.b,I4 (EK c c.had c.o).v.c],.bool c.had]):=by
 refine Se func178 ntmps178 [0] ?_;intro u R;refine Zq<|Zg<|Ze (Bx #[_,_,_,_,_,_,_,_,_,_]) ?_;rintro _ _ ⟨b1,rfl,rfl⟩;refine Ze (Al zeroValue113 #[_,_,_,_,_]) ?_;rintro _ _ ⟨b2,rfl,rfl⟩;refine Za Y<|Z0<|Zx<|Zq<|Zg<|Zo Wh (Pa #[_,_,_,_,_,_,_,_,_,_] isAgg77 sizeOf77 Y) ?_;refine Zh 2 underlying77 rfl rfl sizeOf4 Y<|Zl isAgg4 Y ?_;refine Zh 3 underlying77 rfl rfl sizeOf75 Y<|Zo Wh (Pa #[_,_,_] isAgg75 sizeOf75 Y) ?_;refine Xr [_,_,_] Y call206 Y rfl (U5 c c.had c.o) ?_;refine Zd Y rfl<|Zd Y rfl<|Xe (Xw sizeOf113 _) ?_;refine Za Y<|Z0<|Zn [2,3] ?_;refine Zx<|A9 ?_;refine Bb rfl results178 Y Wh (Ah isAgg113 sizeOf113 Wn (rfl)) Y (by exact ⟨rfl,rfl⟩)
set_option maxHeartbeats 1000000 in
theorem JM(q:QM)(hcl:0≤q.cl∧q.cl≤3)(hbq:0≤q.bq∧q.bq≤3)(c:Chg):CO Tryz.prog 87 #[.agg #[I4 q.kd,I4 q.tb,I4 q.cl,I4 q.lo,I4 q.hi,I4 q.bq,I4 q.ot],.agg #[I4 c.t,I4 c.k,.bool c.had,I4 c.o.a,I4 c.o.b,I4 c.o.c,.bool c.has,I4 c.n.a,I4 c.n.b,I4 c.n.c]] [] (fun v H'=>∃p1 p2 s1 s2,v= .agg #[I4 q.kd,I4 q.tb,I4 q.cl,I4 q.lo,I4 q.hi,I4 q.bq,I4 q.ot,I4 c.t,I4 c.k,.bool c.had,I4 c.o.a,I4 c.o.b,I4 c.o.c,.bool c.has,I4 c.n.a,I4 c.n.b,I4 c.n.c,.pointer p1,.pointer p2,I4 (mQ q (bfQ q c)),I4 (mQ q (afQ q c))]∧IE p1 (bfQ q c) s1∧IE p2 (afQ q c) s2∧H'=[s1,s2]):=by
 refine Se func87 ntmps87 [0,1] ?_;intro u R;refine Zq<|Zg<|Ze (Bx #[_,_,_,_,_,_,_]) ?_;rintro _ _ ⟨bq,rfl,rfl⟩;refine Ze (Bx #[_,_,_,_,_,_,_,_,_,_]) ?_;rintro _ _ ⟨bc,rfl,rfl⟩;refine Ze (LK zeroValue151 (cs:=#[I4 0,I4 0,I4 0,I4 0,I4 0,I4 0,I4 0,I4 0,I4 0,.bool false,I4 0,I4 0,I4 0,.bool false,I4 0,I4 0,I4 0,.pointer none,.pointer none,I4 0,I4 0]) (by kernel_rfl)) ?_;rintro _ _ ⟨rb,rfl,rfl⟩;refine Z0<|Zx<|Zq<|Zg<|Zo Wh (Pa #[_,_,_,_,_,_,_] isAgg30 sizeOf30 Y) ?_;refine Zo Wh (Pa #[_,_,_,_,_,_,_,_,_,_] isAgg77 sizeOf77 Y) ?_;refine Zv (BK (vs:=[(0,.agg #[I4 q.kd,I4 q.tb,I4 q.cl,I4 q.lo,I4 q.hi,I4 q.bq,I4 q.ot]),(1,.agg #[I4 c.t,I4 c.k,.bool c.had,I4 c.o.a,I4 c.o.b,I4 c.o.c,.bool c.has,I4 c.n.a,I4 c.n.b,I4 c.n.c])]) (cs:=#[I4 q.kd,I4 q.tb,I4 q.cl,I4 q.lo,I4 q.hi,I4 q.bq,I4 q.ot,I4 c.t,I4 c.k,.bool c.had,I4 c.o.a,I4 c.o.b,I4 c.o.c,.bool c.has,I4 c.n.a,I4 c.n.b,I4 c.n.c,.pointer none,.pointer none,I4 0,I4 0]) Y (Aa (pl:=#[(0,7),(7,10),(17,1),(18,1),(19,1),(20,1)]) zeroValue151 underlying151 (fun _=>by kernel_rfl) (by kernel_rfl))) ?_;refine Ze (LK zeroValue151 (cs:=#[I4 0,I4 0,I4 0,I4 0,I4 0,I4 0,I4 0,I4 0,I4 0,.bool false,I4 0,I4 0,I4 0,.bool false,I4 0,I4 0,I4 0,.pointer none,.pointer none,I4 0,I4 0]) (by kernel_rfl)) ?_;rintro _ _ ⟨be,rfl,rfl⟩;refine Xe (BN sizeOf151 Y Y (by simp [Value.oneCell',Value.cells]) Wu (by exact DU rfl) (by first|rfl|(simp;done)) Wb (by exact BQ _)) ?_;refine Z0<|Zx<|Zq<|Zg<|Zv (Bt (vs:=[]) (us:=[_]) Y Y) ?_;refine Za Y<|Z0<|Zx<|Zq<|Zg<|Zm Y<|Zo Wh (Pa #[_,_,_,_,_,_,_,_,_,_] isAgg77 sizeOf77 Y) ?_;refine Xr [_] Y call178 Y rfl (bA c) ?_;refine Zd Y rfl<|Zd Y rfl<|Zc [_,_] Y call177 Y rfl (Mx q hcl hbq bq (EK c c.had c.o) c.had) ?_;rintro _ _ ⟨_,⟨p1,s1,rfl,hP1,rfl⟩,rfl⟩;have e91:Hq q c.had (EK c c.had c.o)=bfQ q c:=WR q c c.had c.o
 rw [e91]at hP1⊢;refine Zm Y<|Zd Y rfl<|Zd Y rfl<|Zh 17 underlying151 rfl rfl sizeOf149 Y<|Xe (Zs sizeOf149 Y Y rfl (hi:=by first|omega|decide|(simp;done))) ?_;refine Zh 19 underlying151 rfl rfl sizeOf3 Y<|Xe (Zs sizeOf3 Y Y rfl (hi:=by first|omega|decide|(simp;done))) ?_;refine Z0<|Zn [3,4,5,6] ?_;refine Zx<|Zq<|Zg<|Zm Y<|Zo Wh (Pa #[_,_,_,_,_,_,_,_,_,_] isAgg77 sizeOf77 Y) ?_;refine Xr [_] Y call108 Y rfl (Q0 c) ?_;refine Zd Y rfl<|Zd Y rfl<|Zc [_,_] Y call177 Y rfl (Mx q hcl hbq bq (EK c c.has c.n) c.has) ?_;rintro _ _ ⟨_,⟨p2,s2,rfl,hP2,rfl⟩,rfl⟩;have e92:Hq q c.has (EK c c.has c.n)=afQ q c:=WR q c c.has c.n
 rw [e92]at hP2⊢;refine Zm Y<|Zd Y rfl<|Zd Y rfl<|Zh 18 underlying151 rfl rfl sizeOf149 Y<|Xe (Zs sizeOf149 Y Y rfl (hi:=by first|omega|decide|(simp;done))) ?_;refine Zh 20 underlying151 rfl rfl sizeOf3 Y<|Xe (Zs sizeOf3 Y Y rfl (hi:=by first|omega|decide|(simp;done))) ?_;refine Z0<|Zn [4,5] ?_;refine Zx<|Zq<|Zg<|Zo Wh (AX isAgg151 sizeOf151 Y Wb (by exact Au rfl)) ?_;refine Xe (BN sizeOf151 Y Y (by simp [Value.oneCell',Value.cells]) Wu (by exact DU rfl) (by first|rfl|(simp;done)) Wb (by exact BQ _)) ?_;refine Z0<|Zx<|A9 ?_;refine D7 rfl results87 Y Wh (Ah isAgg151 sizeOf151 Wn (Au rfl)) (by exact ⟨p1,p2,s1,s2,rfl,hP1,hP2,rfl⟩)
theorem FW(q:QM)(c:Chg)(p1 p2:Option Addr)(o n:Int):(Value.agg #[I4 q.kd,I4 q.tb,I4 q.cl,I4 q.lo,I4 q.hi,I4 q.bq,I4 q.ot,I4 c.t,I4 c.k,.bool c.had,I4 c.o.a,I4 c.o.b,I4 c.o.c,.bool c.has,I4 c.n.a,I4 c.n.b,I4 c.n.c,.pointer p1,.pointer p2,I4 o,I4 n]).cells=#[I4 q.kd,I4 q.tb,I4 q.cl,I4 q.lo,I4 q.hi,I4 q.bq,I4 q.ot,I4 c.t,I4 c.k,.bool c.had,I4 c.o.a,I4 c.o.b,I4 c.o.c,.bool c.has,I4 c.n.a,I4 c.n.b,I4 c.n.c,.pointer p1,.pointer p2,I4 o,I4 n]:=by simp [Value.cells]
theorem XB(q:QM)(c:Chg)(p1 p2:Option Addr)(o n:Int):Av Tryz.prog 164 #[.agg #[I4 q.kd,I4 q.tb,I4 q.cl,I4 q.lo,I4 q.hi,I4 q.bq,I4 q.ot,I4 c.t,I4 c.k,.bool c.had,I4 c.o.a,I4 c.o.b,I4 c.o.c,.bool c.has,I4 c.n.a,I4 c.n.b,I4 c.n.c,.pointer p1,.pointer p2,I4 o,I4 n]] [] (.bool (p1.isSome||p2.isSome)):=by
 refine Se func164 ntmps164 [0] ?_;intro u R;refine Zq<|Zg<|Ze (H8 Y (cs:=#[I4 q.kd,I4 q.tb,I4 q.cl,I4 q.lo,I4 q.hi,I4 q.bq,I4 q.ot,I4 c.t,I4 c.k,.bool c.had,I4 c.o.a,I4 c.o.b,I4 c.o.c,.bool c.has,I4 c.n.a,I4 c.n.b,I4 c.n.c,.pointer p1,.pointer p2,I4 o,I4 n]) (FW q c p1 p2 o n)) ?_;rintro _ _ ⟨be,rfl,rfl⟩;refine Za Y<|Z0<|Zx<|Zq<|Zg<|Zh 17 underlying151 rfl rfl sizeOf149 Y<|Zl isAgg149 Y ?_;refine Zv (EZ underlying149 Y Y)<|Zm Y ?_;refine Ai (t:=6) Y rfl (fun h1=>?_) (fun h1=>?_)
 ·
  refine A7 Y rfl<|A7 Y rfl<|A7 Y rfl<|Zv (AL Y Y)<|Za Y<|Z0<|Zx<|A9 ?_;refine AB rfl results164 Y (by exact ⟨by first|rfl|simp [h1],rfl⟩)
 refine Yf 18 underlying151 rfl rfl sizeOf149 Y<|Yl isAgg149 Y ?_;refine Yg (EZ underlying149 Y Y)<|Zv (AA Y Y)<|Za Y<|Z0<|Zx<|A9 ?_;refine AB rfl results164 Y (by exact ⟨by first|rfl|simp [h1],rfl⟩)
theorem Qb(q:QM)(c:Chg)(p1 p2:Option Addr)(o n:Int):Av Tryz.prog 166 #[.agg #[I4 q.kd,I4 q.tb,I4 q.cl,I4 q.lo,I4 q.hi,I4 q.bq,I4 q.ot,I4 c.t,I4 c.k,.bool c.had,I4 c.o.a,I4 c.o.b,I4 c.o.c,.bool c.has,I4 c.n.a,I4 c.n.b,I4 c.n.c,.pointer p1,.pointer p2,I4 o,I4 n]] [] (.bool (p1.isSome !=p2.isSome)):=by
 refine Se func166 ntmps166 [0] ?_;intro u R;refine Zq<|Zg<|Ze (H8 Y (cs:=#[I4 q.kd,I4 q.tb,I4 q.cl,I4 q.lo,I4 q.hi,I4 q.bq,I4 q.ot,I4 c.t,I4 c.k,.bool c.had,I4 c.o.a,I4 c.o.b,I4 c.o.c,.bool c.has,I4 c.n.a,I4 c.n.b,I4 c.n.c,.pointer p1,.pointer p2,I4 o,I4 n]) (FW q c p1 p2 o n)) ?_;rintro _ _ ⟨be,rfl,rfl⟩;refine Za Y<|Z0<|Zx<|Zq<|Zg<|Zh 17 underlying151 rfl rfl sizeOf149 Y<|Zl isAgg149 Y ?_;refine Zv (MO underlying149 Y Y)<|Zh 18 underlying151 rfl rfl sizeOf149 Y<|Zl isAgg149 Y ?_;refine Zv (MO underlying149 Y Y)<|Zv (K6 underlying4 Y Y)<|Za Y<|Z0<|Zx<|A9 ?_;refine AB rfl results166 Y (by exact ⟨by cases p1<;>cases p2<;>rfl,rfl⟩)
theorem nC(q:QM)(c:Chg)(p1 p2:Option Addr)(o n:Int):Av Tryz.prog 168 #[.agg #[I4 q.kd,I4 q.tb,I4 q.cl,I4 q.lo,I4 q.hi,I4 q.bq,I4 q.ot,I4 c.t,I4 c.k,.bool c.had,I4 c.o.a,I4 c.o.b,I4 c.o.c,.bool c.has,I4 c.n.a,I4 c.n.b,I4 c.n.c,.pointer p1,.pointer p2,I4 o,I4 n]] [] (.bool (decide (o≠n))):=by
 refine Se func168 ntmps168 [0] ?_;intro u R;refine Zq<|Zg<|Ze (H8 Y (cs:=#[I4 q.kd,I4 q.tb,I4 q.cl,I4 q.lo,I4 q.hi,I4 q.bq,I4 q.ot,I4 c.t,I4 c.k,.bool c.had,I4 c.o.a,I4 c.o.b,I4 c.o.c,.bool c.has,I4 c.n.a,I4 c.n.b,I4 c.n.c,.pointer p1,.pointer p2,I4 o,I4 n]) (FW q c p1 p2 o n)) ?_;rintro _ _ ⟨be,rfl,rfl⟩;refine Za Y<|Z0<|Zx<|Zq<|Zg<|Zh 19 underlying151 rfl rfl sizeOf3 Y<|Zl isAgg3 Y ?_;refine Zh 20 underlying151 rfl rfl sizeOf3 Y<|Zl isAgg3 Y ?_;refine Zv (IL Y Y)<|Za Y<|Z0<|Zx<|A9 ?_;refine AB rfl results168 Y (by exact ⟨by first|rfl|simp,rfl⟩)
theorem nA(q:QM)(c:Chg)(p1 p2:Option Addr)(o n:Int):Av Tryz.prog 170 #[.agg #[I4 q.kd,I4 q.tb,I4 q.cl,I4 q.lo,I4 q.hi,I4 q.bq,I4 q.ot,I4 c.t,I4 c.k,.bool c.had,I4 c.o.a,I4 c.o.b,I4 c.o.c,.bool c.has,I4 c.n.a,I4 c.n.b,I4 c.n.c,.pointer p1,.pointer p2,I4 o,I4 n]] [] (.bool ((p1.isSome !=p2.isSome)||decide (o≠n))):=by
 refine Se func170 ntmps170 [0] ?_;intro u R;refine Zq<|Zg<|Ze (H8 Y (cs:=#[I4 q.kd,I4 q.tb,I4 q.cl,I4 q.lo,I4 q.hi,I4 q.bq,I4 q.ot,I4 c.t,I4 c.k,.bool c.had,I4 c.o.a,I4 c.o.b,I4 c.o.c,.bool c.has,I4 c.n.a,I4 c.n.b,I4 c.n.c,.pointer p1,.pointer p2,I4 o,I4 n]) (FW q c p1 p2 o n)) ?_;rintro _ _ ⟨be,rfl,rfl⟩;refine Za Y<|Z0<|Zx<|Zq<|Zg<|Zo Wh (AX isAgg151 sizeOf151 Y Wb (by first|exact Au rfl|rfl)) ?_;refine Xr [_] Y call166 Y rfl (Qb q c p1 p2 o n) ?_;refine Zm Y ?_;refine Ai (t:=5) Y rfl (fun h1=>?_) (fun h1=>?_)
 ·
  refine A7 Y rfl<|A7 Y rfl<|A7 Y rfl<|A7 Y rfl<|A7 Y rfl<|Zv (AL Y Y)<|Za Y<|Z0<|Zx<|A9 ?_;refine AB rfl results170 Y (by exact ⟨by first|rfl|simp [h1]|(rw [h1];rfl),rfl⟩)
 refine Yf 19 underlying151 rfl rfl sizeOf3 Y<|Yl isAgg3 Y (hv:=by first|exact Au rfl|rfl) ?_;refine Yf 20 underlying151 rfl rfl sizeOf3 Y<|Yl isAgg3 Y (hv:=by first|exact Au rfl|rfl) ?_;refine Yg (IL Y Y)<|Zv (AA Y Y)<|Za Y<|Z0<|Zx<|A9 ?_;refine AB rfl results170 Y (by exact ⟨by first|rfl|simp [h1]|(rw [h1];rfl),rfl⟩)
theorem mr(q:QM)(c:Chg)(p1 p2:Option Addr)(o n:Int):Av Tryz.prog 173 #[.agg #[I4 q.kd,I4 q.tb,I4 q.cl,I4 q.lo,I4 q.hi,I4 q.bq,I4 q.ot,I4 c.t,I4 c.k,.bool c.had,I4 c.o.a,I4 c.o.b,I4 c.o.c,.bool c.has,I4 c.n.a,I4 c.n.b,I4 c.n.c,.pointer p1,.pointer p2,I4 o,I4 n]] [] (.bool ((p1.isSome !=p2.isSome)||decide (o≠n))):=by
 refine Se func173 ntmps173 [0] ?_;intro u R;refine Zq<|Zg<|Ze (H8 Y (cs:=#[I4 q.kd,I4 q.tb,I4 q.cl,I4 q.lo,I4 q.hi,I4 q.bq,I4 q.ot,I4 c.t,I4 c.k,.bool c.had,I4 c.o.a,I4 c.o.b,I4 c.o.c,.bool c.has,I4 c.n.a,I4 c.n.b,I4 c.n.c,.pointer p1,.pointer p2,I4 o,I4 n]) (FW q c p1 p2 o n)) ?_;rintro _ _ ⟨be,rfl,rfl⟩;refine Za Y<|Z0<|Zx<|Zq<|Zg<|Zo Wh (AX isAgg151 sizeOf151 Y Wb (by first|exact Au rfl|rfl)) ?_;refine Xr [_] Y call166 Y rfl (Qb q c p1 p2 o n) ?_;refine Zm Y ?_;refine Ai (t:=5) Y rfl (fun h1=>?_) (fun h1=>?_)
 ·
  refine A7 Y rfl<|A7 Y rfl<|A7 Y rfl<|A7 Y rfl<|A7 Y rfl<|Zv (AL Y Y)<|Za Y<|Z0<|Zx<|A9 ?_;refine AB rfl results173 Y (by exact ⟨by first|rfl|simp [h1]|(rw [h1];rfl),rfl⟩)
 refine Yf 19 underlying151 rfl rfl sizeOf3 Y<|Yl isAgg3 Y (hv:=by first|exact Au rfl|rfl) ?_;refine Yf 20 underlying151 rfl rfl sizeOf3 Y<|Yl isAgg3 Y (hv:=by first|exact Au rfl|rfl) ?_;refine Yg (IL Y Y)<|Zv (AA Y Y)<|Za Y<|Z0<|Zx<|A9 ?_;refine AB rfl results173 Y (by exact ⟨by first|rfl|simp [h1]|(rw [h1];rfl),rfl⟩)
theorem mq(q:QM)(c:Chg)(p1 p2:Option Addr)(o n:Int):Av Tryz.prog 175 #[.agg #[I4 q.kd,I4 q.tb,I4 q.cl,I4 q.lo,I4 q.hi,I4 q.bq,I4 q.ot,I4 c.t,I4 c.k,.bool c.had,I4 c.o.a,I4 c.o.b,I4 c.o.c,.bool c.has,I4 c.n.a,I4 c.n.b,I4 c.n.c,.pointer p1,.pointer p2,I4 o,I4 n]] [] (.bool ((p1.isSome||p2.isSome)||decide (c.t=q.ot))):=by
 refine Se func175 ntmps175 [0] ?_;intro u R;refine Zq<|Zg<|Ze (H8 Y (cs:=#[I4 q.kd,I4 q.tb,I4 q.cl,I4 q.lo,I4 q.hi,I4 q.bq,I4 q.ot,I4 c.t,I4 c.k,.bool c.had,I4 c.o.a,I4 c.o.b,I4 c.o.c,.bool c.has,I4 c.n.a,I4 c.n.b,I4 c.n.c,.pointer p1,.pointer p2,I4 o,I4 n]) (FW q c p1 p2 o n)) ?_;rintro _ _ ⟨be,rfl,rfl⟩;refine Za Y<|Z0<|Zx<|Zq<|Zg<|Zo Wh (AX isAgg151 sizeOf151 Y Wb (by first|exact Au rfl|rfl)) ?_;refine Xr [_] Y call164 Y rfl (XB q c p1 p2 o n) ?_;refine Zm Y ?_;refine Ai (t:=5) Y rfl (fun h1=>?_) (fun h1=>?_)
 ·
  refine A7 Y rfl<|A7 Y rfl<|A7 Y rfl<|A7 Y rfl<|A7 Y rfl<|A7 Y rfl<|A7 Y rfl<|Zv (AL Y Y)<|Za Y<|Z0<|Zn [2] ?_;refine Zx<|A9 ?_;refine AB rfl results175 Y (by exact ⟨by first|rfl|simp [h1]|(rw [h1];rfl),rfl⟩)
 refine Yf 7 underlying151 rfl rfl sizeOf77 Y<|Yg (BH (off:=0) underlying77 rfl rfl sizeOf3 Y)<|Yl isAgg3 Y (hv:=by first|exact Au rfl|rfl) ?_;refine Yf 0 underlying151 rfl rfl sizeOf30 Y<|Yg (BH (off:=6) underlying30 rfl rfl sizeOf3 Y)<|Yl isAgg3 Y (hv:=by first|exact Au rfl|rfl) ?_;refine Yg (CF Y Y)<|Zv (AA Y Y)<|Za Y<|Z0<|Zn [2] ?_;refine Zx<|A9 ?_;refine AB rfl results175 Y (by exact ⟨by first|rfl|simp [h1]|(rw [h1];rfl),rfl⟩)
end Go.Proofs.YtkdgffcfmgmemaaGreatDoor
