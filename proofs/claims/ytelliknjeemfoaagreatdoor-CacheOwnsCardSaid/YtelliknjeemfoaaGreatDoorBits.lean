/- Words of 32 bits and bytes as integers of the model. No function of the program is named. -/
import Derived.Test.YtelliknjeemfoaaGreatDoorA0
import Derived.WalkKit
set_option linter.unusedVariables false
set_option linter.unusedSimpArgs false
namespace Gw
open Go Go.RowKit
theorem PQ(x:UInt32):x.toNat<4294967296:=x.toNat_lt
theorem wk(x:UInt8):x.toNat<256:=x.toNat_lt
theorem zQ(a b:UInt32):bits .xor .u32 (a.toNat:Int) (b.toNat:Int)=((a^^^b).toNat:Int):=by
 rw [u32_xor_nat _ _ (PQ a) (PQ b),UInt32.toNat_xor]
theorem yY(a b:UInt32):bits .and .u32 (a.toNat:Int) (b.toNat:Int)=((a&&&b).toNat:Int):=by
 rw [u32_and_nat _ _ (PQ a) (PQ b),UInt32.toNat_and]
theorem zo(a b:UInt32):bits .or .u32 (a.toNat:Int) (b.toNat:Int)=((a|||b).toNat:Int):=by
 rw [u32_or_nat _ _ (PQ a) (PQ b),UInt32.toNat_or]
theorem yX(a:UInt32):bits .xor .u32 4294967295 (a.toNat:Int)=((~~~a).toNat:Int):=by
 have h:=zQ 4294967295 a;rw [show((4294967295:UInt32).toNat:Int)=4294967295 from rfl]at h;rw [h];have:(4294967295:UInt32)^^^a= ~~~a:=by
  apply UInt32.toBitVec_inj.1;simp [UInt32.toBitVec_xor,UInt32.toBitVec_not];exact BitVec.allOnes_xor
 rw [this]
theorem yZ(a b:UInt32):IntKind.u32.wrap ((a.toNat:Int)+(b.toNat:Int))=((a+b).toNat:Int):=by
 rw [IntKind.wrap_u32',UInt32.toNat_add];omega
theorem yV(a:UInt32)(n:Nat)(h:n<32):(a.toNat:Int)/((2^n:Nat):Int)=((a>>>UInt32.ofNat n).toNat:Int):=by
 rw [UInt32.toNat_shiftRight,nF,eW (a:=n) A0,eW h,Nat.shiftRight_eq_div_pow];rfl
theorem yW(a:UInt32)(n:Nat)(h:n<32):IntKind.u32.wrap ((a.toNat:Int)*((2^n:Nat):Int))=((a<<<UInt32.ofNat n).toNat:Int):=by
 rw [IntKind.wrap_u32',UInt32.toNat_shiftLeft,nF,eW (a:=n) A0,eW h,Nat.shiftLeft_eq];generalize a.toNat=x;generalize 2^n=y;have h:((x*y:Nat):Int)=(x:Int)*(y:Int):=nw x y
 rw [<-h];generalize x*y=z;omega
theorem zn(a:UInt32):IntKind.u8.wrap (a.toNat:Int)=((a.toUInt8).toNat:Int):=by
 rw [IntKind.wrap_u8',UInt32.toNat_toUInt8];omega
theorem zj(a:UInt8):((a.toUInt32).toNat:Int)=(a.toNat:Int):=by simp
end Gw
