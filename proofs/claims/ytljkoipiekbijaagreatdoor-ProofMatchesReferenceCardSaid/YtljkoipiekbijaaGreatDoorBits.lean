/- Words of 32 bits and bytes as integers of the model. No function of the program is named. -/
import Derived.Test.YtljkoipiekbijaaGreatDoorA0
import Derived.WalkKit
set_option linter.unusedVariables false
set_option linter.unusedSimpArgs false
namespace Gw
open Go Go.RowKit
theorem Pt(x:UInt32):x.toNat<4294967296:=x.toNat_lt
theorem zN(x:UInt8):x.toNat<256:=x.toNat_lt
theorem xS(a b:UInt32):bits .xor .u32 (a.toNat:Int) (b.toNat:Int)=((a^^^b).toNat:Int):=by
 rw [u32_xor_nat _ _ (Pt a) (Pt b),UInt32.toNat_xor]
theorem pj(a b:UInt32):bits .and .u32 (a.toNat:Int) (b.toNat:Int)=((a&&&b).toNat:Int):=by
 rw [u32_and_nat _ _ (Pt a) (Pt b),UInt32.toNat_and]
theorem s8(a b:UInt32):bits .or .u32 (a.toNat:Int) (b.toNat:Int)=((a|||b).toNat:Int):=by
 rw [u32_or_nat _ _ (Pt a) (Pt b),UInt32.toNat_or]
theorem ph(a:UInt32):bits .xor .u32 4294967295 (a.toNat:Int)=((~~~a).toNat:Int):=by
 have h:=xS 4294967295 a;rw [show((4294967295:UInt32).toNat:Int)=4294967295 from rfl]at h;rw [h];have:(4294967295:UInt32)^^^a= ~~~a:=by
  apply UInt32.toBitVec_inj.1;simp [UInt32.toBitVec_xor,UInt32.toBitVec_not];exact BitVec.allOnes_xor
 rw [this]
theorem pw(a b:UInt32):IntKind.u32.wrap ((a.toNat:Int)+(b.toNat:Int))=((a+b).toNat:Int):=by
 rw [IntKind.wrap_u32',UInt32.toNat_add];omega
theorem pT(a:UInt32)(n:Nat)(h:n<32):(a.toNat:Int)/((2^n:Nat):Int)=((a>>>UInt32.ofNat n).toNat:Int):=by
 rw [UInt32.toNat_shiftRight,iu,cD (a:=n) A0,cD h,Nat.shiftRight_eq_div_pow];rfl
theorem pZ(a:UInt32)(n:Nat)(h:n<32):IntKind.u32.wrap ((a.toNat:Int)*((2^n:Nat):Int))=((a<<<UInt32.ofNat n).toNat:Int):=by
 rw [IntKind.wrap_u32',UInt32.toNat_shiftLeft,iu,cD (a:=n) A0,cD h,Nat.shiftLeft_eq];generalize a.toNat=x;generalize 2^n=y;have h:((x*y:Nat):Int)=(x:Int)*(y:Int):=kA x y
 rw [<-h];generalize x*y=z;omega
theorem s7(a:UInt32):IntKind.u8.wrap (a.toNat:Int)=((a.toUInt8).toNat:Int):=by
 rw [IntKind.wrap_u8',UInt32.toNat_toUInt8];omega
theorem rr(a:UInt8):((a.toUInt32).toNat:Int)=(a.toNat:Int):=by simp
end Gw
