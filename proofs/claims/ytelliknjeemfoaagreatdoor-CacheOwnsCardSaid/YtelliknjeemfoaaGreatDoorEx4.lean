/- Walking by chunks: fields, words of 32 bits, bytes, conversions. No function of the program is named. -/
import Derived.Test.YtelliknjeemfoaaGreatDoorEx3
import Derived.Test.YtelliknjeemfoaaGreatDoorBits
set_option linter.unusedVariables false
set_option linter.unusedSimpArgs false
namespace Gw
open Go Go.RowKit
section
variable{P:Program}{env:Env}{d:Option Nat}{ty:AK}{pos:String}{af:Array Edge}{g:Option (Nat×Bool)}
section
variable{t:AK}{x:Operand}{b o f m off:Nat}{fs:Array Field}{fl:Field}
theorem Ai(J:P.underlying t=some (.struct fs))(B:fs[f]?=some fl)(G:fl.offset=off)(I:∀w:A4,(Go.sizeOf fl.type).run P w= .ok (m+1) w)(hx:∀a,ev a env x= .pointer (some ⟨b,o,none⟩)):
 OpP P ⟨d,.fieldAddr t x f,ty,pos,af,g⟩ env [] (.pointer (some ⟨b,o+off,none⟩)):=by
 subst G;exact QS J B I hx rfl
theorem AB(J:P.underlying t=some (.struct fs))(B:fs[f]?=some fl)(G:fl.offset=off)(I:∀w:A4,(Go.sizeOf fl.type).run P w= .ok (m+1) w)(hx:∀a,ev a env x=I1 b):
 OpP P ⟨d,.fieldAddr t x f,ty,pos,af,g⟩ env [] (.pointer (some ⟨b,off,none⟩)):=by
 subst G;exact QS J B I hx (DP _)
end
theorem O0(n:Nat)(h:n<=18446744073709551615):IntKind.u64.wrap (n:Int)=(n:Int):=by rw [IntKind.wrap_u64];omega
section
variable{t yt:AK}{x y:Operand}{m n:Nat}
theorem UJ(hx:∀a,ev a env x= .int .u64 (m:Int))(hy:∀a,ev a env y= .int .u64 (n:Int))(B:n<=m)(G:m<=18446744073709551615):OpP P ⟨d,.binOp .sub t x y yt,ty,pos,af,g⟩ env [] (.int .u64 ((m -n:Nat):Int)):=
 Gu hx hy (by rw [<-Int.ofNat_sub B];exact O0 _ A0)
theorem Po{k B:IntKind}(hx:∀a,ev a env x= .int k (m:Int))(hy:∀a,ev a env y= .int B (n:Int))(hn:n<=k.bits):OpP P ⟨d,.binOp .shr t x y yt,ty,pos,af,g⟩ env [] (.int k ((m/2^n:Nat):Int)):=
 rD hx hy A0 A0 (by rw [Z2];simp)
theorem UK{G:IntKind}(hx:∀a,ev a env x=I0 (m:Int))(hy:∀a,ev a env y= .int G (n:Int))(hn:n<=64)(B:m*2^n<=9223372036854775807):OpP P ⟨d,.binOp .shl t x y yt,ty,pos,af,g⟩ env [] (I0 ((m*2^n:Nat):Int)):=
 iY hx hy A0 (by simp [IntKind.bits];omega) (by rw [Z2,<-EE _ B];simp)
theorem A25{G:IntKind}(hx:∀a,ev a env x= .int .u64 (m:Int))(hy:∀a,ev a env y= .int G (n:Int))(hn:n<=64)(B:m*2^n<=18446744073709551615):OpP P ⟨d,.binOp .shl t x y yt,ty,pos,af,g⟩ env [] (.int .u64 ((m*2^n:Nat):Int)):=
 iY hx hy A0 (by simp [IntKind.bits];omega) (by rw [Z2,<-O0 _ B];simp)
end
section
variable{t yt:AK}{x y:Operand}
theorem ED{p q:UInt32}(hx:∀a,ev a env x= .int .u32 (p.toNat:Int))(hy:∀a,ev a env y= .int .u32 (q.toNat:Int)):OpP P ⟨d,.binOp .add t x y yt,ty,pos,af,g⟩ env [] (.int .u32 ((p+q).toNat:Int)):=JX hx hy (yZ p q)
theorem Gj{p q:UInt32}(hx:∀a,ev a env x= .int .u32 (p.toNat:Int))(hy:∀a,ev a env y= .int .u32 (q.toNat:Int)):OpP P ⟨d,.binOp .xor t x y yt,ty,pos,af,g⟩ env [] (.int .u32 ((p^^^q).toNat:Int)):=zD hx hy (zQ p q)
theorem K7{p q:UInt32}(hx:∀a,ev a env x= .int .u32 (p.toNat:Int))(hy:∀a,ev a env y= .int .u32 (q.toNat:Int)):OpP P ⟨d,.binOp .and t x y yt,ty,pos,af,g⟩ env [] (.int .u32 ((p&&&q).toNat:Int)):=rO hx hy (yY p q)
theorem OZ{p q:UInt32}(hx:∀a,ev a env x= .int .u32 (p.toNat:Int))(hy:∀a,ev a env y= .int .u32 (q.toNat:Int)):OpP P ⟨d,.binOp .or t x y yt,ty,pos,af,g⟩ env [] (.int .u32 ((p|||q).toNat:Int)):=ra hx hy (zo p q)
theorem kw{p:UInt32}(hx:∀a,ev a env x= .int .u32 (p.toNat:Int)):OpP P ⟨d,.unOp .xor t x,ty,pos,af,g⟩ env [] (.int .u32 ((~~~p).toNat:Int)):=xj hx (yX p)
theorem MO{p:UInt32}{k:IntKind}{n:Nat}(hx:∀a,ev a env x= .int .u32 (p.toNat:Int))(hy:∀a,ev a env y= .int k (n:Int))(hn:n<32):OpP P ⟨d,.binOp .shr t x y yt,ty,pos,af,g⟩ env [] (.int .u32 ((p>>>UInt32.ofNat n).toNat:Int)):=
 rD hx hy A0 (by simp [IntKind.bits];omega) (by rw [Z2,<-yV p n hn];simp)
theorem MQ{p:UInt32}{k:IntKind}{n:Nat}(hx:∀a,ev a env x= .int .u32 (p.toNat:Int))(hy:∀a,ev a env y= .int k (n:Int))(hn:n<32):OpP P ⟨d,.binOp .shl t x y yt,ty,pos,af,g⟩ env [] (.int .u32 ((p<<<UInt32.ofNat n).toNat:Int)):=
 iY hx hy A0 (by simp [IntKind.bits];omega) (by rw [Z2,<-yW p n hn];simp)
end
section
variable{s t:AK}{x:Operand}{ds:TypeDesc}
theorem IC{p:UInt8}(B:P.underlying s=some ds)(G:P.underlying t=some (.int .u32))(hx:∀a,ev a env x= .int .u8 (p.toNat:Int)):OpP P ⟨d,.convert s t x,ty,pos,af,g⟩ env [] (.int .u32 ((p.toUInt32).toNat:Int)):=
 Eu B G hx (by rw [zj,IntKind.wrap_u32'];have:=wk p;omega)
theorem UM{p:UInt32}(B:P.underlying s=some ds)(G:P.underlying t=some (.int .u8))(hx:∀a,ev a env x= .int .u32 (p.toNat:Int)):OpP P ⟨d,.convert s t x,ty,pos,af,g⟩ env [] (.int .u8 ((p.toUInt8).toNat:Int)):=
 Eu B G hx (zn p)
theorem Sk{k:IntKind}{m:Nat}(G:P.underlying s=some ds)(I:P.underlying t=some (.int .i64))(hx:∀a,ev a env x= .int k (m:Int))(B:m<=9223372036854775807):OpP P ⟨d,.convert s t x,ty,pos,af,g⟩ env [] (I0 (m:Int)):=
 Eu G I hx (EE m B)
theorem Lf{k:IntKind}{m:Nat}(B:P.underlying s=some ds)(G:P.underlying t=some (.int .u64))(hx:∀a,ev a env x= .int k (m:Int))(I:m<=18446744073709551615):OpP P ⟨d,.convert s t x,ty,pos,af,g⟩ env [] (.int .u64 (m:Int)):=
 Eu B G hx (by rw [IntKind.wrap_u64];omega)
theorem UN{k:IntKind}{m:Nat}(B:P.underlying s=some ds)(G:P.underlying t=some (.int .u8))(hx:∀a,ev a env x= .int k (m:Int))(I:m<=255):OpP P ⟨d,.convert s t x,ty,pos,af,g⟩ env [] (.int .u8 (m:Int)):=
 Eu B G hx (IntWalk.u8_in _ A0)
theorem A24{k:IntKind}{m:Nat}(B:P.underlying s=some ds)(G:P.underlying t=some (.int .u32))(hx:∀a,ev a env x= .int k (m:Int))(I:m<=4294967295):OpP P ⟨d,.convert s t x,ty,pos,af,g⟩ env [] (.int .u32 (m:Int)):=
 Eu B G hx (IntWalk.u32_in _ A0)
def u8v(x:UInt8):A2:= .int .u8 (x.toNat:Int)
def Cq(x:UInt32):A2:= .int .u32 (x.toNat:Int)
def str(l:List UInt8):C4:=⟨l.toArray⟩
theorem K6{e b i n cap:Nat}{c:AM}{T:AK}{z:Nat×Nat}{bs:List UInt8}(W:P.underlying s=some (.slice e))(O:P.underlying e=some (.int .u8))(X:P.underlying t=some .string)(hx:∀a,ev a env x= .slice (some ⟨b,i,none⟩) n cap)
 (hv:((c.toList.drop i).take n)=bs.map u8v/\bs.length=n):OpP P ⟨d,.convert s t x,ty,pos,af,g⟩ env [(b,.cells c T z)] (.string (str bs)):=fun a w h=>by
 have K:=h (b,.cells c T z) (by simp);obtain ⟨hv,I⟩:=hv;have U:(loadCells ⟨b,i,none⟩ n).run P w= .ok (bs.map u8v).toArray w:=by
  have:=run_loadCells_list (P:=P) w ⟨b,i,none⟩ (bs.map u8v) (fun j v G=>by
   rw [CW];refine Cn K ?_;rw [<-hv,HU]at G;split at G;· rw [S2]at G;simpa using G
   · cases G)
  rw [Bm,I]at this;exact this
 have B:(convert s t (.slice (some ⟨b,i,none⟩) n cap)).run P w= .ok (.string (str bs)) w:=by
  have J:(loadCells ⟨b,i,none⟩ n).run P w= .ok ((bs.map fun x=>(x.toNat:Int)).map (Value.int .u8)).toArray w:=by
   rw [U,Mz];rfl
  rw [run_convert_bytes_string w s t e _ n cap W O X,run_bytesToString w _ n cap _ J,foldl_push_bytes];congr 2;simp only [str,ByteArray.mk.injEq];apply Array.ext';simp [ByteArray.empty,ByteArray.emptyWithCapacity,nm];rfl
 rw [Jp,Sem.run_bind,hx a,B];rfl
end
end
end Gw
