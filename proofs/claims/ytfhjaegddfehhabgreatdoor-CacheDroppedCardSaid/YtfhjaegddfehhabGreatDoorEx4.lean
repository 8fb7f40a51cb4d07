/- Walking by chunks: fields, words of 32 bits, bytes, conversions. No function of the program is named. -/
import Derived.Test.YtfhjaegddfehhabGreatDoorEx3
import Derived.Test.YtfhjaegddfehhabGreatDoorBits
set_option linter.unusedVariables false
set_option linter.unusedSimpArgs false
namespace Gw
open Go Go.RowKit
section
variable{P:Program}{env:Env}{d:Option Nat}{ty:AK}{pos:String}{af:Array Edge}{g:Option (Nat×Bool)}
section
variable{t:AK}{x:Operand}{b o f m off:Nat}{fs:Array Field}{fl:Field}
theorem Ar(J:P.underlying t=some (.struct fs))(B:fs[f]?=some fl)(G:fl.offset=off)(I:∀w:AD,(Go.sizeOf fl.type).run P w= .ok (m+1) w)(hx:∀a,ev a env x= .pointer (some ⟨b,o,none⟩)):
 OpP P ⟨d,.fieldAddr t x f,ty,pos,af,g⟩ env [] (.pointer (some ⟨b,o+off,none⟩)):=by
 subst G;exact R5 J B I hx rfl
theorem AB(J:P.underlying t=some (.struct fs))(B:fs[f]?=some fl)(G:fl.offset=off)(I:∀w:AD,(Go.sizeOf fl.type).run P w= .ok (m+1) w)(hx:∀a,ev a env x=I5 b):
 OpP P ⟨d,.fieldAddr t x f,ty,pos,af,g⟩ env [] (.pointer (some ⟨b,off,none⟩)):=by
 subst G;exact R5 J B I hx (DM _)
end
theorem OQ(n:Nat)(h:n<=18446744073709551615):IntKind.u64.wrap (n:Int)=(n:Int):=by rw [IntKind.wrap_u64];omega
section
variable{t yt:AK}{x y:Operand}{m n:Nat}
theorem Un(hx:∀a,ev a env x= .int .u64 (m:Int))(hy:∀a,ev a env y= .int .u64 (n:Int))(B:n<=m)(G:m<=18446744073709551615):OpP P ⟨d,.binOp .sub t x y yt,ty,pos,af,g⟩ env [] (.int .u64 ((m -n:Nat):Int)):=
 GN hx hy (by rw [<-Int.ofNat_sub B];exact OQ _ A1)
theorem QQ{k B:IntKind}(hx:∀a,ev a env x= .int k (m:Int))(hy:∀a,ev a env y= .int B (n:Int))(hn:n<=k.bits):OpP P ⟨d,.binOp .shr t x y yt,ty,pos,af,g⟩ env [] (.int k ((m/2^n:Nat):Int)):=
 sF hx hy A1 A1 (by rw [W8];simp)
theorem Uo{G:IntKind}(hx:∀a,ev a env x=I4 (m:Int))(hy:∀a,ev a env y= .int G (n:Int))(hn:n<=64)(B:m*2^n<=9223372036854775807):OpP P ⟨d,.binOp .shl t x y yt,ty,pos,af,g⟩ env [] (I4 ((m*2^n:Nat):Int)):=
 je hx hy A1 (by simp [IntKind.bits];omega) (by rw [W8,<-EF _ B];simp)
theorem A09{G:IntKind}(hx:∀a,ev a env x= .int .u64 (m:Int))(hy:∀a,ev a env y= .int G (n:Int))(hn:n<=64)(B:m*2^n<=18446744073709551615):OpP P ⟨d,.binOp .shl t x y yt,ty,pos,af,g⟩ env [] (.int .u64 ((m*2^n:Nat):Int)):=
 je hx hy A1 (by simp [IntKind.bits];omega) (by rw [W8,<-OQ _ B];simp)
end
section
variable{t yt:AK}{x y:Operand}
theorem Dh{p q:UInt32}(hx:∀a,ev a env x= .int .u32 (p.toNat:Int))(hy:∀a,ev a env y= .int .u32 (q.toNat:Int)):OpP P ⟨d,.binOp .add t x y yt,ty,pos,af,g⟩ env [] (.int .u32 ((p+q).toNat:Int)):=Hg hx hy (xt p q)
theorem FY{p q:UInt32}(hx:∀a,ev a env x= .int .u32 (p.toNat:Int))(hy:∀a,ev a env y= .int .u32 (q.toNat:Int)):OpP P ⟨d,.binOp .xor t x y yt,ty,pos,af,g⟩ env [] (.int .u32 ((p^^^q).toNat:Int)):=zU hx hy (zn p q)
theorem KS{p q:UInt32}(hx:∀a,ev a env x= .int .u32 (p.toNat:Int))(hy:∀a,ev a env y= .int .u32 (q.toNat:Int)):OpP P ⟨d,.binOp .and t x y yt,ty,pos,af,g⟩ env [] (.int .u32 ((p&&&q).toNat:Int)):=sS hx hy (xr p q)
theorem PG{p q:UInt32}(hx:∀a,ev a env x= .int .u32 (p.toNat:Int))(hy:∀a,ev a env y= .int .u32 (q.toNat:Int)):OpP P ⟨d,.binOp .or t x y yt,ty,pos,af,g⟩ env [] (.int .u32 ((p|||q).toNat:Int)):=qT hx hy (zj p q)
theorem mP{p:UInt32}(hx:∀a,ev a env x= .int .u32 (p.toNat:Int)):OpP P ⟨d,.unOp .xor t x,ty,pos,af,g⟩ env [] (.int .u32 ((~~~p).toNat:Int)):=wg hx (xp p)
theorem Ms{p:UInt32}{k:IntKind}{n:Nat}(hx:∀a,ev a env x= .int .u32 (p.toNat:Int))(hy:∀a,ev a env y= .int k (n:Int))(hn:n<32):OpP P ⟨d,.binOp .shr t x y yt,ty,pos,af,g⟩ env [] (.int .u32 ((p>>>UInt32.ofNat n).toNat:Int)):=
 sF hx hy A1 (by simp [IntKind.bits];omega) (by rw [W8,<-xl p n hn];simp)
theorem Mt{p:UInt32}{k:IntKind}{n:Nat}(hx:∀a,ev a env x= .int .u32 (p.toNat:Int))(hy:∀a,ev a env y= .int k (n:Int))(hn:n<32):OpP P ⟨d,.binOp .shl t x y yt,ty,pos,af,g⟩ env [] (.int .u32 ((p<<<UInt32.ofNat n).toNat:Int)):=
 je hx hy A1 (by simp [IntKind.bits];omega) (by rw [W8,<-xo p n hn];simp)
end
section
variable{s t:AK}{x:Operand}{ds:TypeDesc}
theorem IM{p:UInt8}(B:P.underlying s=some ds)(G:P.underlying t=some (.int .u32))(hx:∀a,ev a env x= .int .u8 (p.toNat:Int)):OpP P ⟨d,.convert s t x,ty,pos,af,g⟩ env [] (.int .u32 ((p.toUInt32).toNat:Int)):=
 Ep B G hx (by rw [zc,IntKind.wrap_u32'];have:=vu p;omega)
theorem Ur{p:UInt32}(B:P.underlying s=some ds)(G:P.underlying t=some (.int .u8))(hx:∀a,ev a env x= .int .u32 (p.toNat:Int)):OpP P ⟨d,.convert s t x,ty,pos,af,g⟩ env [] (.int .u8 ((p.toUInt8).toNat:Int)):=
 Ep B G hx (zd p)
theorem TW{k:IntKind}{m:Nat}(G:P.underlying s=some ds)(I:P.underlying t=some (.int .i64))(hx:∀a,ev a env x= .int k (m:Int))(B:m<=9223372036854775807):OpP P ⟨d,.convert s t x,ty,pos,af,g⟩ env [] (I4 (m:Int)):=
 Ep G I hx (EF m B)
theorem M8{k:IntKind}{m:Nat}(B:P.underlying s=some ds)(G:P.underlying t=some (.int .u64))(hx:∀a,ev a env x= .int k (m:Int))(I:m<=18446744073709551615):OpP P ⟨d,.convert s t x,ty,pos,af,g⟩ env [] (.int .u64 (m:Int)):=
 Ep B G hx (by rw [IntKind.wrap_u64];omega)
theorem Us{k:IntKind}{m:Nat}(B:P.underlying s=some ds)(G:P.underlying t=some (.int .u8))(hx:∀a,ev a env x= .int k (m:Int))(I:m<=255):OpP P ⟨d,.convert s t x,ty,pos,af,g⟩ env [] (.int .u8 (m:Int)):=
 Ep B G hx (IntWalk.u8_in _ A1)
theorem A08{k:IntKind}{m:Nat}(B:P.underlying s=some ds)(G:P.underlying t=some (.int .u32))(hx:∀a,ev a env x= .int k (m:Int))(I:m<=4294967295):OpP P ⟨d,.convert s t x,ty,pos,af,g⟩ env [] (.int .u32 (m:Int)):=
 Ep B G hx (IntWalk.u32_in _ A1)
def u8v(x:UInt8):A3:= .int .u8 (x.toNat:Int)
def Ct(x:UInt32):A3:= .int .u32 (x.toNat:Int)
def str(l:List UInt8):Bk:=⟨l.toArray⟩
theorem KR{e b i n cap:Nat}{c:AH}{T:AK}{z:Nat×Nat}{bs:List UInt8}(X:P.underlying s=some (.slice e))(U:P.underlying e=some (.int .u8))(Z:P.underlying t=some .string)(hx:∀a,ev a env x= .slice (some ⟨b,i,none⟩) n cap)
 (hv:((c.toList.drop i).take n)=bs.map u8v/\bs.length=n):OpP P ⟨d,.convert s t x,ty,pos,af,g⟩ env [(b,.cells c T z)] (.string (str bs)):=fun a w h=>by
 have O:=h (b,.cells c T z) (by simp);obtain ⟨hv,I⟩:=hv;have W:(loadCells ⟨b,i,none⟩ n).run P w= .ok (bs.map u8v).toArray w:=by
  have:=run_loadCells_list (P:=P) w ⟨b,i,none⟩ (bs.map u8v) (fun j v G=>by
   rw [CW];refine Ck O ?_;rw [<-hv,HJ]at G;split at G;· rw [Q2]at G;simpa using G
   · cases G)
  rw [B8,I]at this;exact this
 have B:(convert s t (.slice (some ⟨b,i,none⟩) n cap)).run P w= .ok (.string (str bs)) w:=by
  have J:(loadCells ⟨b,i,none⟩ n).run P w= .ok ((bs.map fun x=>(x.toNat:Int)).map (Value.int .u8)).toArray w:=by
   rw [W,LN];rfl
  rw [run_convert_bytes_string w s t e _ n cap X U Z,run_bytesToString w _ n cap _ J,foldl_push_bytes];congr 2;simp only [str,ByteArray.mk.injEq];apply Array.ext';simp [ByteArray.empty,ByteArray.emptyWithCapacity,mw];rfl
 rw [K7,Sem.run_bind,hx a,B];rfl
end
end
end Gw
