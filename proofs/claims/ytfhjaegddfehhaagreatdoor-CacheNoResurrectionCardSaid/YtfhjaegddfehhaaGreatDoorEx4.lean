/- Walking by chunks: fields, words of 32 bits, bytes, conversions. No function of the program is named. -/
import Derived.Test.YtfhjaegddfehhaaGreatDoorEx3
import Derived.Test.YtfhjaegddfehhaaGreatDoorBits
set_option linter.unusedVariables false
set_option linter.unusedSimpArgs false
namespace Gw
open Go Go.RowKit
section
variable{P:Program}{env:Env}{d:Option Nat}{ty:TypeId}{pos:String}{af:Array Edge}{g:Option (Nat×Bool)}
section
variable{t:TypeId}{x:Operand}{b o f m off:Nat}{fs:Array Field}{fl:Field}
theorem Ar(J:P.underlying t=some (.struct fs))(B:fs[f]?=some fl)(G:fl.offset=off)(I:∀w:World,(Go.sizeOf fl.type).run P w= .ok (m+1) w)(hx:∀a,ev a env x= .pointer (some ⟨b,o,none⟩)):
 OpP P ⟨d,.fieldAddr t x f,ty,pos,af,g⟩ env [] (.pointer (some ⟨b,o+off,none⟩)):=by
 subst G;exact Qi J B I hx rfl
theorem AB(J:P.underlying t=some (.struct fs))(B:fs[f]?=some fl)(G:fl.offset=off)(I:∀w:World,(Go.sizeOf fl.type).run P w= .ok (m+1) w)(hx:∀a,ev a env x=I5 b):
 OpP P ⟨d,.fieldAddr t x f,ty,pos,af,g⟩ env [] (.pointer (some ⟨b,off,none⟩)):=by
 subst G;exact Qi J B I hx (D0 _)
end
theorem OD(n:Nat)(h:n<=18446744073709551615):IntKind.u64.wrap (n:Int)=(n:Int):=by rw [IntKind.wrap_u64];omega
section
variable{t yt:TypeId}{x y:Operand}{m n:Nat}
theorem UW(hx:∀a,ev a env x= .int .u64 (m:Int))(hy:∀a,ev a env y= .int .u64 (n:Int))(B:n<=m)(G:m<=18446744073709551615):OpP P ⟨d,.binOp .sub t x y yt,ty,pos,af,g⟩ env [] (.int .u64 ((m -n:Nat):Int)):=
 GL hx hy (by rw [<-Int.ofNat_sub B];exact OD _ A1)
theorem Q8{k B:IntKind}(hx:∀a,ev a env x= .int k (m:Int))(hy:∀a,ev a env y= .int B (n:Int))(hn:n<=k.bits):OpP P ⟨d,.binOp .shr t x y yt,ty,pos,af,g⟩ env [] (.int k ((m/2^n:Nat):Int)):=
 qd hx hy A1 A1 (by rw [W0];simp)
theorem UX{G:IntKind}(hx:∀a,ev a env x=I4 (m:Int))(hy:∀a,ev a env y= .int G (n:Int))(hn:n<=64)(B:m*2^n<=9223372036854775807):OpP P ⟨d,.binOp .shl t x y yt,ty,pos,af,g⟩ env [] (I4 ((m*2^n:Nat):Int)):=
 iy hx hy A1 (by simp [IntKind.bits];omega) (by rw [W0,<-ED _ B];simp)
theorem vS{G:IntKind}(hx:∀a,ev a env x= .int .u64 (m:Int))(hy:∀a,ev a env y= .int G (n:Int))(hn:n<=64)(B:m*2^n<=18446744073709551615):OpP P ⟨d,.binOp .shl t x y yt,ty,pos,af,g⟩ env [] (.int .u64 ((m*2^n:Nat):Int)):=
 iy hx hy A1 (by simp [IntKind.bits];omega) (by rw [W0,<-OD _ B];simp)
end
section
variable{t yt:TypeId}{x y:Operand}
theorem Df{p q:UInt32}(hx:∀a,ev a env x= .int .u32 (p.toNat:Int))(hy:∀a,ev a env y= .int .u32 (q.toNat:Int)):OpP P ⟨d,.binOp .add t x y yt,ty,pos,af,g⟩ env [] (.int .u32 ((p+q).toNat:Int)):=He hx hy (ud p q)
theorem FV{p q:UInt32}(hx:∀a,ev a env x= .int .u32 (p.toNat:Int))(hy:∀a,ev a env y= .int .u32 (q.toNat:Int)):OpP P ⟨d,.binOp .xor t x y yt,ty,pos,af,g⟩ env [] (.int .u32 ((p^^^q).toNat:Int)):=yY hx hy (yl p q)
theorem KH{p q:UInt32}(hx:∀a,ev a env x= .int .u32 (p.toNat:Int))(hy:∀a,ev a env y= .int .u32 (q.toNat:Int)):OpP P ⟨d,.binOp .and t x y yt,ty,pos,af,g⟩ env [] (.int .u32 ((p&&&q).toNat:Int)):=rE hx hy (uc p q)
theorem Oq{p q:UInt32}(hx:∀a,ev a env x= .int .u32 (p.toNat:Int))(hy:∀a,ev a env y= .int .u32 (q.toNat:Int)):OpP P ⟨d,.binOp .or t x y yt,ty,pos,af,g⟩ env [] (.int .u32 ((p|||q).toNat:Int)):=pB hx hy (wk p q)
theorem lF{p:UInt32}(hx:∀a,ev a env x= .int .u32 (p.toNat:Int)):OpP P ⟨d,.unOp .xor t x,ty,pos,af,g⟩ env [] (.int .u32 ((~~~p).toNat:Int)):=td hx (ub p)
theorem Mi{p:UInt32}{k:IntKind}{n:Nat}(hx:∀a,ev a env x= .int .u32 (p.toNat:Int))(hy:∀a,ev a env y= .int k (n:Int))(hn:n<32):OpP P ⟨d,.binOp .shr t x y yt,ty,pos,af,g⟩ env [] (.int .u32 ((p>>>UInt32.ofNat n).toNat:Int)):=
 qd hx hy A1 (by simp [IntKind.bits];omega) (by rw [W0,<-u5 p n hn];simp)
theorem Mj{p:UInt32}{k:IntKind}{n:Nat}(hx:∀a,ev a env x= .int .u32 (p.toNat:Int))(hy:∀a,ev a env y= .int k (n:Int))(hn:n<32):OpP P ⟨d,.binOp .shl t x y yt,ty,pos,af,g⟩ env [] (.int .u32 ((p<<<UInt32.ofNat n).toNat:Int)):=
 iy hx hy A1 (by simp [IntKind.bits];omega) (by rw [W0,<-ua p n hn];simp)
end
section
variable{s t:TypeId}{x:Operand}{ds:TypeDesc}
theorem IK{p:UInt8}(B:P.underlying s=some ds)(G:P.underlying t=some (.int .u32))(hx:∀a,ev a env x= .int .u8 (p.toNat:Int)):OpP P ⟨d,.convert s t x,ty,pos,af,g⟩ env [] (.int .u32 ((p.toUInt32).toNat:Int)):=
 Es B G hx (by rw [wi,IntKind.wrap_u32'];have:=tB p;omega)
theorem UZ{p:UInt32}(B:P.underlying s=some ds)(G:P.underlying t=some (.int .u8))(hx:∀a,ev a env x= .int .u32 (p.toNat:Int)):OpP P ⟨d,.convert s t x,ty,pos,af,g⟩ env [] (.int .u8 ((p.toUInt8).toNat:Int)):=
 Es B G hx (wj p)
theorem TF{k:IntKind}{m:Nat}(G:P.underlying s=some ds)(I:P.underlying t=some (.int .i64))(hx:∀a,ev a env x= .int k (m:Int))(B:m<=9223372036854775807):OpP P ⟨d,.convert s t x,ty,pos,af,g⟩ env [] (I4 (m:Int)):=
 Es G I hx (ED m B)
theorem Ls{k:IntKind}{m:Nat}(B:P.underlying s=some ds)(G:P.underlying t=some (.int .u64))(hx:∀a,ev a env x= .int k (m:Int))(I:m<=18446744073709551615):OpP P ⟨d,.convert s t x,ty,pos,af,g⟩ env [] (.int .u64 (m:Int)):=
 Es B G hx (by rw [IntKind.wrap_u64];omega)
theorem Ua{k:IntKind}{m:Nat}(B:P.underlying s=some ds)(G:P.underlying t=some (.int .u8))(hx:∀a,ev a env x= .int k (m:Int))(I:m<=255):OpP P ⟨d,.convert s t x,ty,pos,af,g⟩ env [] (.int .u8 (m:Int)):=
 Es B G hx (IntWalk.u8_in _ A1)
theorem rD{k:IntKind}{m:Nat}(B:P.underlying s=some ds)(G:P.underlying t=some (.int .u32))(hx:∀a,ev a env x= .int k (m:Int))(I:m<=4294967295):OpP P ⟨d,.convert s t x,ty,pos,af,g⟩ env [] (.int .u32 (m:Int)):=
 Es B G hx (IntWalk.u32_in _ A1)
def u8v(x:UInt8):Value:= .int .u8 (x.toNat:Int)
def Cs(x:UInt32):Value:= .int .u32 (x.toNat:Int)
def str(l:List UInt8):ByteArray:=⟨l.toArray⟩
theorem KG{e b i n cap:Nat}{c:Array Value}{T:TypeId}{z:Nat×Nat}{bs:List UInt8}(W:P.underlying s=some (.slice e))(O:P.underlying e=some (.int .u8))(X:P.underlying t=some .string)(hx:∀a,ev a env x= .slice (some ⟨b,i,none⟩) n cap)
 (hv:((c.toList.drop i).take n)=bs.map u8v/\bs.length=n):OpP P ⟨d,.convert s t x,ty,pos,af,g⟩ env [(b,.cells c T z)] (.string (str bs)):=fun a w h=>by
 have K:=h (b,.cells c T z) (by simp);obtain ⟨hv,I⟩:=hv;have U:(loadCells ⟨b,i,none⟩ n).run P w= .ok (bs.map u8v).toArray w:=by
  have:=run_loadCells_list (P:=P) w ⟨b,i,none⟩ (bs.map u8v) (fun j v G=>by
   rw [CY];refine Cn K ?_;rw [<-hv,HC]at G;split at G;· rw [NO]at G;simpa using G
   · cases G)
  rw [B4,I]at this;exact this
 have B:(convert s t (.slice (some ⟨b,i,none⟩) n cap)).run P w= .ok (.string (str bs)) w:=by
  have J:(loadCells ⟨b,i,none⟩ n).run P w= .ok ((bs.map fun x=>(x.toNat:Int)).map (Value.int .u8)).toArray w:=by
   rw [U,Kf];rfl
  rw [run_convert_bytes_string w s t e _ n cap W O X,run_bytesToString w _ n cap _ J,foldl_push_bytes];congr 2;simp only [str,ByteArray.mk.injEq];apply Array.ext';simp [ByteArray.empty,ByteArray.emptyWithCapacity,lA];rfl
 rw [Jw,Sem.run_bind,hx a,B];rfl
end
end
end Gw
