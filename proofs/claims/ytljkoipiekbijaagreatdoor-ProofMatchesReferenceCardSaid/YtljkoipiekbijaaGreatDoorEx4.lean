/- Walking by chunks: fields, words of 32 bits, bytes, conversions. No function of the program is named. -/
import Derived.Test.YtljkoipiekbijaaGreatDoorEx3
import Derived.Test.YtljkoipiekbijaaGreatDoorBits
set_option linter.unusedVariables false
set_option linter.unusedSimpArgs false
namespace Gw
open Go Go.RowKit
section
variable{P:Program}{env:Env}{d:Option Nat}{ty:An}{pos:String}{af:Array Edge}{g:Option (Nat×Bool)}
section
variable{t:An}{x:Operand}{b o f m off:Nat}{fs:Array Field}{fl:Field}
theorem Aj(I:P.underlying t=some (.struct fs))(z:fs[f]?=some fl)(E:fl.offset=off)(G:∀w:AD,(Go.sizeOf fl.type).run P w= .ok (m+1) w)(hx:∀a,ev a env x= .pointer (some ⟨b,o,none⟩)):
 OpP P ⟨d,.fieldAddr t x f,ty,pos,af,g⟩ env [] (.pointer (some ⟨b,o+off,none⟩)):=by
 subst E;exact Qx I z G hx rfl
theorem AL(I:P.underlying t=some (.struct fs))(z:fs[f]?=some fl)(E:fl.offset=off)(G:∀w:AD,(Go.sizeOf fl.type).run P w= .ok (m+1) w)(hx:∀a,ev a env x=I5 b):
 OpP P ⟨d,.fieldAddr t x f,ty,pos,af,g⟩ env [] (.pointer (some ⟨b,off,none⟩)):=by
 subst E;exact Qx I z G hx (Dd _)
end
def XU(s:ByteArray)(j:Nat):UInt8:=s.data.getD j 0
theorem fT(s:ByteArray)(j:Nat)(h:j<s.size):s.data[j]?=some (XU s j):=by
 have z:j<s.data.size:=h;rw [KK z,XU,Lw,KK z,fy]
theorem JV(n:Nat)(h:n<=18446744073709551615):IntKind.u64.wrap (n:Int)=(n:Int):=by rw [IntKind.wrap_u64];omega
section
variable{t yt:An}{x y:Operand}{m n:Nat}
theorem UM(hx:∀a,ev a env x= .int .u64 (m:Int))(hy:∀a,ev a env y= .int .u64 (n:Int))(z:m+n<=18446744073709551615):OpP P ⟨d,.binOp .add t x y yt,ty,pos,af,g⟩ env [] (.int .u64 ((m+n:Nat):Int)):=
 Fw hx hy (by rw [<-Int.natCast_add];exact JV _ z)
theorem Ni(hx:∀a,ev a env x= .int .u64 (m:Int))(hy:∀a,ev a env y= .int .u64 (n:Int))(z:n<=m)(E:m<=18446744073709551615):OpP P ⟨d,.binOp .sub t x y yt,ty,pos,af,g⟩ env [] (.int .u64 ((m -n:Nat):Int)):=
 GI hx hy (by rw [<-Int.ofNat_sub z];exact JV _ A0)
theorem Nj(hx:∀a,ev a env x= .int .u64 (m:Int))(hy:∀a,ev a env y= .int .u64 (n:Int))(z:m*n<=18446744073709551615):OpP P ⟨d,.binOp .mul t x y yt,ty,pos,af,g⟩ env [] (.int .u64 ((m*n:Nat):Int)):=
 Yh hx hy (by rw [<-kA];exact JV _ z)
theorem QJ{k z:IntKind}(hx:∀a,ev a env x= .int k (m:Int))(hy:∀a,ev a env y= .int z (n:Int))(hn:n<=k.bits):OpP P ⟨d,.binOp .shr t x y yt,ty,pos,af,g⟩ env [] (.int k ((m/2^n:Nat):Int)):=
 oz hx hy A0 A0 (by rw [S1];simp)
theorem UI{E:IntKind}(hx:∀a,ev a env x=I4 (m:Int))(hy:∀a,ev a env y= .int E (n:Int))(hn:n<=64)(z:m*2^n<=9223372036854775807):OpP P ⟨d,.binOp .shl t x y yt,ty,pos,af,g⟩ env [] (I4 ((m*2^n:Nat):Int)):=
 iH hx hy A0 (by simp [IntKind.bits];omega) (by rw [S1,<-Fe _ z];simp)
theorem tY{E:IntKind}(hx:∀a,ev a env x= .int .u64 (m:Int))(hy:∀a,ev a env y= .int E (n:Int))(hn:n<=64)(z:m*2^n<=18446744073709551615):OpP P ⟨d,.binOp .shl t x y yt,ty,pos,af,g⟩ env [] (.int .u64 ((m*2^n:Nat):Int)):=
 iH hx hy A0 (by simp [IntKind.bits];omega) (by rw [S1,<-JV _ z];simp)
end
section
variable{t yt:An}{x y:Operand}
theorem Cr{p q:UInt32}(hx:∀a,ev a env x= .int .u32 (p.toNat:Int))(hy:∀a,ev a env y= .int .u32 (q.toNat:Int)):OpP P ⟨d,.binOp .add t x y yt,ty,pos,af,g⟩ env [] (.int .u32 ((p+q).toNat:Int)):=Fw hx hy (pw p q)
theorem Dk{p q:UInt32}(hx:∀a,ev a env x= .int .u32 (p.toNat:Int))(hy:∀a,ev a env y= .int .u32 (q.toNat:Int)):OpP P ⟨d,.binOp .xor t x y yt,ty,pos,af,g⟩ env [] (.int .u32 ((p^^^q).toNat:Int)):=xA hx hy (xS p q)
theorem GA{p q:UInt32}(hx:∀a,ev a env x= .int .u32 (p.toNat:Int))(hy:∀a,ev a env y= .int .u32 (q.toNat:Int)):OpP P ⟨d,.binOp .and t x y yt,ty,pos,af,g⟩ env [] (.int .u32 ((p&&&q).toNat:Int)):=pG hx hy (pj p q)
theorem JA{p q:UInt32}(hx:∀a,ev a env x= .int .u32 (p.toNat:Int))(hy:∀a,ev a env y= .int .u32 (q.toNat:Int)):OpP P ⟨d,.binOp .or t x y yt,ty,pos,af,g⟩ env [] (.int .u32 ((p|||q).toNat:Int)):=mu hx hy (s8 p q)
theorem Vg{p:UInt32}(hx:∀a,ev a env x= .int .u32 (p.toNat:Int)):OpP P ⟨d,.unOp .xor t x,ty,pos,af,g⟩ env [] (.int .u32 ((~~~p).toNat:Int)):=oS hx (ph p)
theorem G8{p:UInt32}{k:IntKind}{n:Nat}(hx:∀a,ev a env x= .int .u32 (p.toNat:Int))(hy:∀a,ev a env y= .int k (n:Int))(hn:n<32):OpP P ⟨d,.binOp .shr t x y yt,ty,pos,af,g⟩ env [] (.int .u32 ((p>>>UInt32.ofNat n).toNat:Int)):=
 oz hx hy A0 (by simp [IntKind.bits];omega) (by rw [S1,<-pT p n hn];simp)
theorem I9{p:UInt32}{k:IntKind}{n:Nat}(hx:∀a,ev a env x= .int .u32 (p.toNat:Int))(hy:∀a,ev a env y= .int k (n:Int))(hn:n<32):OpP P ⟨d,.binOp .shl t x y yt,ty,pos,af,g⟩ env [] (.int .u32 ((p<<<UInt32.ofNat n).toNat:Int)):=
 iH hx hy A0 (by simp [IntKind.bits];omega) (by rw [S1,<-pZ p n hn];simp)
end
section
variable{s t:An}{x:Operand}{ds:TypeDesc}
theorem Eh{p:UInt8}(z:P.underlying s=some ds)(E:P.underlying t=some (.int .u32))(hx:∀a,ev a env x= .int .u8 (p.toNat:Int)):OpP P ⟨d,.convert s t x,ty,pos,af,g⟩ env [] (.int .u32 ((p.toUInt32).toNat:Int)):=
 FB z E hx (by rw [rr,IntKind.wrap_u32'];have:=zN p;omega)
theorem H7{p:UInt32}(z:P.underlying s=some ds)(E:P.underlying t=some (.int .u8))(hx:∀a,ev a env x= .int .u32 (p.toNat:Int)):OpP P ⟨d,.convert s t x,ty,pos,af,g⟩ env [] (.int .u8 ((p.toUInt8).toNat:Int)):=
 FB z E hx (s7 p)
theorem K7{k:IntKind}{m:Nat}(z:P.underlying s=some ds)(E:P.underlying t=some (.int .u64))(hx:∀a,ev a env x= .int k (m:Int))(G:m<=18446744073709551615):OpP P ⟨d,.convert s t x,ty,pos,af,g⟩ env [] (.int .u64 (m:Int)):=
 FB z E hx (by rw [IntKind.wrap_u64];omega)
theorem Kj{k:IntKind}{m:Nat}(z:P.underlying s=some ds)(E:P.underlying t=some (.int .u8))(hx:∀a,ev a env x= .int k (m:Int))(G:m<=255):OpP P ⟨d,.convert s t x,ty,pos,af,g⟩ env [] (.int .u8 (m:Int)):=
 FB z E hx (IntWalk.u8_in _ A0)
theorem pF{k:IntKind}{m:Nat}(z:P.underlying s=some ds)(E:P.underlying t=some (.int .u32))(hx:∀a,ev a env x= .int k (m:Int))(G:m<=4294967295):OpP P ⟨d,.convert s t x,ty,pos,af,g⟩ env [] (.int .u32 (m:Int)):=
 FB z E hx (IntWalk.u32_in _ A0)
def u8v(x:UInt8):A3:= .int .u8 (x.toNat:Int)
def CP(x:UInt32):A3:= .int .u32 (x.toNat:Int)
def str(l:List UInt8):ByteArray:=⟨l.toArray⟩
theorem Dm{e b i n cap:Nat}{c:As}{T:An}{z:Nat×Nat}{bs:List UInt8}(U:P.underlying s=some (.slice e))(M:P.underlying e=some (.int .u8))(W:P.underlying t=some .string)(hx:∀a,ev a env x= .slice (some ⟨b,i,none⟩) n cap)
 (hv:((c.toList.drop i).take n)=bs.map u8v/\bs.length=n):OpP P ⟨d,.convert s t x,ty,pos,af,g⟩ env [(b,.cells c T z)] (.string (str bs)):=fun a w h=>by
 have K:=h (b,.cells c T z) (by simp);obtain ⟨hv,I⟩:=hv;have O:(loadCells ⟨b,i,none⟩ n).run P w= .ok (bs.map u8v).toArray w:=by
  have:=run_loadCells_list (P:=P) w ⟨b,i,none⟩ (bs.map u8v) (fun j v G=>by
   rw [Cq];refine DL K ?_;rw [<-hv,I3]at G;split at G;· rw [Ly]at G;simpa using G
   · cases G)
  rw [C2,I]at this;exact this
 have E:(convert s t (.slice (some ⟨b,i,none⟩) n cap)).run P w= .ok (.string (str bs)) w:=by
  have J:(loadCells ⟨b,i,none⟩ n).run P w= .ok ((bs.map fun x=>(x.toNat:Int)).map (Value.int .u8)).toArray w:=by
   rw [O,kj];rfl
  rw [run_convert_bytes_string w s t e _ n cap U M W,run_bytesToString w _ n cap _ J,foldl_push_bytes];congr 2;simp only [str,ByteArray.mk.injEq];apply Array.ext';simp [ByteArray.empty,ByteArray.emptyWithCapacity,j7];rfl
 rw [Pk,Sem.run_bind,hx a,E];rfl
end
end
end Gw
