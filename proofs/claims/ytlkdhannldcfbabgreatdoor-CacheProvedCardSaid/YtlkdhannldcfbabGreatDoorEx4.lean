/- Walking by chunks: fields, words of 32 bits, bytes, conversions. No function of the program is named. -/
import Derived.Test.YtlkdhannldcfbabGreatDoorEx3
import Derived.Test.YtlkdhannldcfbabGreatDoorBits
set_option linter.unusedVariables false
set_option linter.unusedSimpArgs false
namespace Gw
open Go Go.RowKit
section
variable{P:Program}{env:Env}{d:Option Nat}{ty:AM}{pos:String}{af:Array Edge}{g:Option (Nat×Bool)}
section
variable{t:AM}{x:Operand}{b o f m off:Nat}{fs:Array Field}{fl:Field}
theorem Ar(J:P.underlying t=some (.struct fs))(B:fs[f]?=some fl)(G:fl.offset=off)(I:∀w:A5,(Go.sizeOf fl.type).run P w= .ok (m+1) w)(hx:∀a,ev a env x= .pointer (some ⟨b,o,none⟩)):
 OpP P ⟨d,.fieldAddr t x f,ty,pos,af,g⟩ env [] (.pointer (some ⟨b,o+off,none⟩)):=by
 subst G;exact Ra J B I hx rfl
theorem AB(J:P.underlying t=some (.struct fs))(B:fs[f]?=some fl)(G:fl.offset=off)(I:∀w:A5,(Go.sizeOf fl.type).run P w= .ok (m+1) w)(hx:∀a,ev a env x=I5 b):
 OpP P ⟨d,.fieldAddr t x f,ty,pos,af,g⟩ env [] (.pointer (some ⟨b,off,none⟩)):=by
 subst G;exact Ra J B I hx (Dd _)
end
theorem P8(n:Nat)(h:n<=18446744073709551615):IntKind.u64.wrap (n:Int)=(n:Int):=by rw [IntKind.wrap_u64];omega
section
variable{t yt:AM}{x y:Operand}{m n:Nat}
theorem VP(hx:∀a,ev a env x= .int .u64 (m:Int))(hy:∀a,ev a env y= .int .u64 (n:Int))(B:n<=m)(G:m<=18446744073709551615):OpP P ⟨d,.binOp .sub t x y yt,ty,pos,af,g⟩ env [] (.int .u64 ((m -n:Nat):Int)):=
 GZ hx hy (by rw [<-Int.ofNat_sub B];exact P8 _ A0)
theorem Qo{k B:IntKind}(hx:∀a,ev a env x= .int k (m:Int))(hy:∀a,ev a env y= .int B (n:Int))(hn:n<=k.bits):OpP P ⟨d,.binOp .shr t x y yt,ty,pos,af,g⟩ env [] (.int k ((m/2^n:Nat):Int)):=
 vQ hx hy A0 A0 (by rw [SJ];simp)
theorem VQ{G:IntKind}(hx:∀a,ev a env x=I4 (m:Int))(hy:∀a,ev a env y= .int G (n:Int))(hn:n<=64)(B:m*2^n<=9223372036854775807):OpP P ⟨d,.binOp .shl t x y yt,ty,pos,af,g⟩ env [] (I4 ((m*2^n:Nat):Int)):=
 lQ hx hy A0 (by simp [IntKind.bits];omega) (by rw [SJ,<-ED _ B];simp)
theorem AF8{G:IntKind}(hx:∀a,ev a env x= .int .u64 (m:Int))(hy:∀a,ev a env y= .int G (n:Int))(hn:n<=64)(B:m*2^n<=18446744073709551615):OpP P ⟨d,.binOp .shl t x y yt,ty,pos,af,g⟩ env [] (.int .u64 ((m*2^n:Nat):Int)):=
 lQ hx hy A0 (by simp [IntKind.bits];omega) (by rw [SJ,<-P8 _ B];simp)
end
section
variable{t yt:AM}{x y:Operand}
theorem EC{p q:UInt32}(hx:∀a,ev a env x= .int .u32 (p.toNat:Int))(hy:∀a,ev a env y= .int .u32 (q.toNat:Int)):OpP P ⟨d,.binOp .add t x y yt,ty,pos,af,g⟩ env [] (.int .u32 ((p+q).toNat:Int)):=J6 hx hy (zI p q)
theorem Gv{p q:UInt32}(hx:∀a,ev a env x= .int .u32 (p.toNat:Int))(hy:∀a,ev a env y= .int .u32 (q.toNat:Int)):OpP P ⟨d,.binOp .xor t x y yt,ty,pos,af,g⟩ env [] (.int .u32 ((p^^^q).toNat:Int)):=tx hx hy (uF p q)
theorem Kc{p q:UInt32}(hx:∀a,ev a env x= .int .u32 (p.toNat:Int))(hy:∀a,ev a env y= .int .u32 (q.toNat:Int)):OpP P ⟨d,.binOp .and t x y yt,ty,pos,af,g⟩ env [] (.int .u32 ((p&&&q).toNat:Int)):=vX hx hy (zE p q)
theorem Pj{p q:UInt32}(hx:∀a,ev a env x= .int .u32 (p.toNat:Int))(hy:∀a,ev a env y= .int .u32 (q.toNat:Int)):OpP P ⟨d,.binOp .or t x y yt,ty,pos,af,g⟩ env [] (.int .u32 ((p|||q).toNat:Int)):=uM hx hy (zr p q)
theorem oZ{p:UInt32}(hx:∀a,ev a env x= .int .u32 (p.toNat:Int)):OpP P ⟨d,.unOp .xor t x,ty,pos,af,g⟩ env [] (.int .u32 ((~~~p).toNat:Int)):=yb hx (z7 p)
theorem NS{p:UInt32}{k:IntKind}{n:Nat}(hx:∀a,ev a env x= .int .u32 (p.toNat:Int))(hy:∀a,ev a env y= .int k (n:Int))(hn:n<32):OpP P ⟨d,.binOp .shr t x y yt,ty,pos,af,g⟩ env [] (.int .u32 ((p>>>UInt32.ofNat n).toNat:Int)):=
 vQ hx hy A0 (by simp [IntKind.bits];omega) (by rw [SJ,<-yy p n hn];simp)
theorem NT{p:UInt32}{k:IntKind}{n:Nat}(hx:∀a,ev a env x= .int .u32 (p.toNat:Int))(hy:∀a,ev a env y= .int k (n:Int))(hn:n<32):OpP P ⟨d,.binOp .shl t x y yt,ty,pos,af,g⟩ env [] (.int .u32 ((p<<<UInt32.ofNat n).toNat:Int)):=
 lQ hx hy A0 (by simp [IntKind.bits];omega) (by rw [SJ,<-z6 p n hn];simp)
end
section
variable{s t:AM}{x:Operand}{ds:TypeDesc}
theorem IV{p:UInt8}(B:P.underlying s=some ds)(G:P.underlying t=some (.int .u32))(hx:∀a,ev a env x= .int .u8 (p.toNat:Int)):OpP P ⟨d,.convert s t x,ty,pos,af,g⟩ env [] (.int .u32 ((p.toUInt32).toNat:Int)):=
 Ez B G hx (by rw [zj,IntKind.wrap_u32'];have:=yQ p;omega)
theorem VS{p:UInt32}(B:P.underlying s=some ds)(G:P.underlying t=some (.int .u8))(hx:∀a,ev a env x= .int .u32 (p.toNat:Int)):OpP P ⟨d,.convert s t x,ty,pos,af,g⟩ env [] (.int .u8 ((p.toUInt8).toNat:Int)):=
 Ez B G hx (zo p)
theorem UD{k:IntKind}{m:Nat}(G:P.underlying s=some ds)(I:P.underlying t=some (.int .i64))(hx:∀a,ev a env x= .int k (m:Int))(B:m<=9223372036854775807):OpP P ⟨d,.convert s t x,ty,pos,af,g⟩ env [] (I4 (m:Int)):=
 Ez G I hx (ED m B)
theorem Me{k:IntKind}{m:Nat}(B:P.underlying s=some ds)(G:P.underlying t=some (.int .u64))(hx:∀a,ev a env x= .int k (m:Int))(I:m<=18446744073709551615):OpP P ⟨d,.convert s t x,ty,pos,af,g⟩ env [] (.int .u64 (m:Int)):=
 Ez B G hx (by rw [IntKind.wrap_u64];omega)
theorem VT{k:IntKind}{m:Nat}(B:P.underlying s=some ds)(G:P.underlying t=some (.int .u8))(hx:∀a,ev a env x= .int k (m:Int))(I:m<=255):OpP P ⟨d,.convert s t x,ty,pos,af,g⟩ env [] (.int .u8 (m:Int)):=
 Ez B G hx (IntWalk.u8_in _ A0)
theorem AF7{k:IntKind}{m:Nat}(B:P.underlying s=some ds)(G:P.underlying t=some (.int .u32))(hx:∀a,ev a env x= .int k (m:Int))(I:m<=4294967295):OpP P ⟨d,.convert s t x,ty,pos,af,g⟩ env [] (.int .u32 (m:Int)):=
 Ez B G hx (IntWalk.u32_in _ A0)
def u8v(x:UInt8):A2:= .int .u8 (x.toNat:Int)
def CW(x:UInt32):A2:= .int .u32 (x.toNat:Int)
def str(l:List UInt8):CA:=⟨l.toArray⟩
theorem Kb{e b i n cap:Nat}{c:AN}{T:AM}{z:Nat×Nat}{bs:List UInt8}(W:P.underlying s=some (.slice e))(O:P.underlying e=some (.int .u8))(X:P.underlying t=some .string)(hx:∀a,ev a env x= .slice (some ⟨b,i,none⟩) n cap)
 (hv:((c.toList.drop i).take n)=bs.map u8v/\bs.length=n):OpP P ⟨d,.convert s t x,ty,pos,af,g⟩ env [(b,.cells c T z)] (.string (str bs)):=fun a w h=>by
 have K:=h (b,.cells c T z) (by simp);obtain ⟨hv,I⟩:=hv;have U:(loadCells ⟨b,i,none⟩ n).run P w= .ok (bs.map u8v).toArray w:=by
  have:=run_loadCells_list (P:=P) w ⟨b,i,none⟩ (bs.map u8v) (fun j v G=>by
   rw [Cb];refine Cq K ?_;rw [<-hv,HR]at G;split at G;· rw [Pc]at G;simpa using G
   · cases G)
  rw [Bk,I]at this;exact this
 have B:(convert s t (.slice (some ⟨b,i,none⟩) n cap)).run P w= .ok (.string (str bs)) w:=by
  have J:(loadCells ⟨b,i,none⟩ n).run P w= .ok ((bs.map fun x=>(x.toNat:Int)).map (Value.int .u8)).toArray w:=by
   rw [U,Mn];rfl
  rw [run_convert_bytes_string w s t e _ n cap W O X,run_bytesToString w _ n cap _ J,foldl_push_bytes];congr 2;simp only [str,ByteArray.mk.injEq];apply Array.ext';simp [ByteArray.empty,ByteArray.emptyWithCapacity,nj];rfl
 rw [KM,Sem.run_bind,hx a,B];rfl
end
end
end Gw
