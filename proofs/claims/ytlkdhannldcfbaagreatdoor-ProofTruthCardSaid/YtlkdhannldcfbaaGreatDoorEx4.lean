/- Walking by chunks: fields, words of 32 bits, bytes, conversions. No function of the program is named. -/
import Derived.Test.YtlkdhannldcfbaaGreatDoorEx3
import Derived.Test.YtlkdhannldcfbaaGreatDoorBits
set_option linter.unusedVariables false
set_option linter.unusedSimpArgs false
namespace Gw
open Go Go.RowKit
section
variable{P:Program}{env:Env}{d:Option Nat}{ty:AM}{pos:String}{af:Array Edge}{g:Option (Nat×Bool)}
section
variable{t:AM}{x:Operand}{b o f m off:Nat}{fs:Array Field}{fl:Field}
theorem Aj(J:P.underlying t=some (.struct fs))(E:fs[f]?=some fl)(G:fl.offset=off)(I:∀w:A6,(Go.sizeOf fl.type).run P w= .ok (m+1) w)(hx:∀a,ev a env x= .pointer (some ⟨b,o,none⟩)):
 OpP P ⟨d,.fieldAddr t x f,ty,pos,af,g⟩ env [] (.pointer (some ⟨b,o+off,none⟩)):=by
 subst G;exact R7 J E I hx rfl
theorem AV(J:P.underlying t=some (.struct fs))(E:fs[f]?=some fl)(G:fl.offset=off)(I:∀w:A6,(Go.sizeOf fl.type).run P w= .ok (m+1) w)(hx:∀a,ev a env x=I5 b):
 OpP P ⟨d,.fieldAddr t x f,ty,pos,af,g⟩ env [] (.pointer (some ⟨b,off,none⟩)):=by
 subst G;exact R7 J E I hx (C6 _)
end
def XV(s:ByteArray)(j:Nat):UInt8:=s.data.getD j 0
theorem fC(s:ByteArray)(j:Nat)(h:j<s.size):s.data[j]?=some (XV s j):=by
 have E:j<s.data.size:=h;rw [HO E,XV,JT,HO E,eL]
theorem JN(n:Nat)(h:n<=18446744073709551615):IntKind.u64.wrap (n:Int)=(n:Int):=by rw [IntKind.wrap_u64];omega
section
variable{t yt:AM}{x y:Operand}{m n:Nat}
theorem UN(hx:∀a,ev a env x= .int .u64 (m:Int))(hy:∀a,ev a env y= .int .u64 (n:Int))(E:m+n<=18446744073709551615):OpP P ⟨d,.binOp .add t x y yt,ty,pos,af,g⟩ env [] (.int .u64 ((m+n:Nat):Int)):=
 EU hx hy (by rw [<-Int.natCast_add];exact JN _ E)
theorem Nj(hx:∀a,ev a env x= .int .u64 (m:Int))(hy:∀a,ev a env y= .int .u64 (n:Int))(E:n<=m)(G:m<=18446744073709551615):OpP P ⟨d,.binOp .sub t x y yt,ty,pos,af,g⟩ env [] (.int .u64 ((m -n:Nat):Int)):=
 HV hx hy (by rw [<-Int.ofNat_sub E];exact JN _ A0)
theorem Nl(hx:∀a,ev a env x= .int .u64 (m:Int))(hy:∀a,ev a env y= .int .u64 (n:Int))(E:m*n<=18446744073709551615):OpP P ⟨d,.binOp .mul t x y yt,ty,pos,af,g⟩ env [] (.int .u64 ((m*n:Nat):Int)):=
 gV hx hy (by rw [<-fm];exact JN _ E)
theorem QO{k E:IntKind}(hx:∀a,ev a env x= .int k (m:Int))(hy:∀a,ev a env y= .int E (n:Int))(hn:n<=k.bits):OpP P ⟨d,.binOp .shr t x y yt,ty,pos,af,g⟩ env [] (.int k ((m/2^n:Nat):Int)):=
 oI hx hy A0 A0 (by rw [M1];simp)
theorem UJ{G:IntKind}(hx:∀a,ev a env x=I4 (m:Int))(hy:∀a,ev a env y= .int G (n:Int))(hn:n<=64)(E:m*2^n<=9223372036854775807):OpP P ⟨d,.binOp .shl t x y yt,ty,pos,af,g⟩ env [] (I4 ((m*2^n:Nat):Int)):=
 gU hx hy A0 (by simp [IntKind.bits];omega) (by rw [M1,<-FX _ E];simp)
theorem sM{G:IntKind}(hx:∀a,ev a env x= .int .u64 (m:Int))(hy:∀a,ev a env y= .int G (n:Int))(hn:n<=64)(E:m*2^n<=18446744073709551615):OpP P ⟨d,.binOp .shl t x y yt,ty,pos,af,g⟩ env [] (.int .u64 ((m*2^n:Nat):Int)):=
 gU hx hy A0 (by simp [IntKind.bits];omega) (by rw [M1,<-JN _ E];simp)
end
section
variable{t yt:AM}{x y:Operand}
theorem CU{p q:UInt32}(hx:∀a,ev a env x= .int .u32 (p.toNat:Int))(hy:∀a,ev a env y= .int .u32 (q.toNat:Int)):OpP P ⟨d,.binOp .add t x y yt,ty,pos,af,g⟩ env [] (.int .u32 ((p+q).toNat:Int)):=EU hx hy (z8 p q)
theorem DC{p q:UInt32}(hx:∀a,ev a env x= .int .u32 (p.toNat:Int))(hy:∀a,ev a env y= .int .u32 (q.toNat:Int)):OpP P ⟨d,.binOp .xor t x y yt,ty,pos,af,g⟩ env [] (.int .u32 ((p^^^q).toNat:Int)):=wB hx hy (wK p q)
theorem Fy{p q:UInt32}(hx:∀a,ev a env x= .int .u32 (p.toNat:Int))(hy:∀a,ev a env y= .int .u32 (q.toNat:Int)):OpP P ⟨d,.binOp .and t x y yt,ty,pos,af,g⟩ env [] (.int .u32 ((p&&&q).toNat:Int)):=oM hx hy (yz p q)
theorem Iz{p q:UInt32}(hx:∀a,ev a env x= .int .u32 (p.toNat:Int))(hy:∀a,ev a env y= .int .u32 (q.toNat:Int)):OpP P ⟨d,.binOp .or t x y yt,ty,pos,af,g⟩ env [] (.int .u32 ((p|||q).toNat:Int)):=yM hx hy (zZ p q)
theorem Vd{p:UInt32}(hx:∀a,ev a env x= .int .u32 (p.toNat:Int)):OpP P ⟨d,.unOp .xor t x,ty,pos,af,g⟩ env [] (.int .u32 ((~~~p).toNat:Int)):=yN hx (yx p)
theorem Fv{p:UInt32}{k:IntKind}{n:Nat}(hx:∀a,ev a env x= .int .u32 (p.toNat:Int))(hy:∀a,ev a env y= .int k (n:Int))(hn:n<32):OpP P ⟨d,.binOp .shr t x y yt,ty,pos,af,g⟩ env [] (.int .u32 ((p>>>UInt32.ofNat n).toNat:Int)):=
 oI hx hy A0 (by simp [IntKind.bits];omega) (by rw [M1,<-yu p n hn];simp)
theorem HY{p:UInt32}{k:IntKind}{n:Nat}(hx:∀a,ev a env x= .int .u32 (p.toNat:Int))(hy:∀a,ev a env y= .int k (n:Int))(hn:n<32):OpP P ⟨d,.binOp .shl t x y yt,ty,pos,af,g⟩ env [] (.int .u32 ((p<<<UInt32.ofNat n).toNat:Int)):=
 gU hx hy A0 (by simp [IntKind.bits];omega) (by rw [M1,<-yw p n hn];simp)
end
section
variable{s t:AM}{x:Operand}{ds:TypeDesc}
theorem Eg{p:UInt8}(E:P.underlying s=some ds)(G:P.underlying t=some (.int .u32))(hx:∀a,ev a env x= .int .u8 (p.toNat:Int)):OpP P ⟨d,.convert s t x,ty,pos,af,g⟩ env [] (.int .u32 ((p.toUInt32).toNat:Int)):=
 FB E G hx (by rw [zX,IntKind.wrap_u32'];have:=yA p;omega)
theorem Gg{p:UInt32}(E:P.underlying s=some ds)(G:P.underlying t=some (.int .u8))(hx:∀a,ev a env x= .int .u32 (p.toNat:Int)):OpP P ⟨d,.convert s t x,ty,pos,af,g⟩ env [] (.int .u8 ((p.toUInt8).toNat:Int)):=
 FB E G hx (zY p)
theorem Jm{k:IntKind}{m:Nat}(E:P.underlying s=some ds)(G:P.underlying t=some (.int .u64))(hx:∀a,ev a env x= .int k (m:Int))(I:m<=18446744073709551615):OpP P ⟨d,.convert s t x,ty,pos,af,g⟩ env [] (.int .u64 (m:Int)):=
 FB E G hx (by rw [IntKind.wrap_u64];omega)
theorem KX{k:IntKind}{m:Nat}(E:P.underlying s=some ds)(G:P.underlying t=some (.int .u8))(hx:∀a,ev a env x= .int k (m:Int))(I:m<=255):OpP P ⟨d,.convert s t x,ty,pos,af,g⟩ env [] (.int .u8 (m:Int)):=
 FB E G hx (IntWalk.u8_in _ A0)
theorem oL{k:IntKind}{m:Nat}(E:P.underlying s=some ds)(G:P.underlying t=some (.int .u32))(hx:∀a,ev a env x= .int k (m:Int))(I:m<=4294967295):OpP P ⟨d,.convert s t x,ty,pos,af,g⟩ env [] (.int .u32 (m:Int)):=
 FB E G hx (IntWalk.u32_in _ A0)
def u8v(x:UInt8):A4:= .int .u8 (x.toNat:Int)
def CB(x:UInt32):A4:= .int .u32 (x.toNat:Int)
def str(l:List UInt8):ByteArray:=⟨l.toArray⟩
theorem Dh{e b i n cap:Nat}{c:AN}{T:AM}{z:Nat×Nat}{bs:List UInt8}(U:P.underlying s=some (.slice e))(M:P.underlying e=some (.int .u8))(W:P.underlying t=some .string)(hx:∀a,ev a env x= .slice (some ⟨b,i,none⟩) n cap)
 (hv:((c.toList.drop i).take n)=bs.map u8v/\bs.length=n):OpP P ⟨d,.convert s t x,ty,pos,af,g⟩ env [(b,.cells c T z)] (.string (str bs)):=fun a w h=>by
 have K:=h (b,.cells c T z) (by simp);obtain ⟨hv,I⟩:=hv;have O:(loadCells ⟨b,i,none⟩ n).run P w= .ok (bs.map u8v).toArray w:=by
  have:=run_loadCells_list (P:=P) w ⟨b,i,none⟩ (bs.map u8v) (fun j v G=>by
   rw [Cb];refine D8 K ?_;rw [<-hv,Gk]at G;split at G;· rw [Hh]at G;simpa using G
   · cases G)
  rw [zu,I]at this;exact this
 have E:(convert s t (.slice (some ⟨b,i,none⟩) n cap)).run P w= .ok (.string (str bs)) w:=by
  have J:(loadCells ⟨b,i,none⟩ n).run P w= .ok ((bs.map fun x=>(x.toNat:Int)).map (Value.int .u8)).toArray w:=by
   rw [O,gR];rfl
  rw [run_convert_bytes_string w s t e _ n cap U M W,run_bytesToString w _ n cap _ J,foldl_push_bytes];congr 2;simp only [str,ByteArray.mk.injEq];apply Array.ext';simp [ByteArray.empty,ByteArray.emptyWithCapacity,fc];rfl
 rw [Pp,Sem.run_bind,hx a,E];rfl
end
end
end Gw
