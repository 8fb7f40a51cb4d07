/- Walking by chunks: fields, words of 32 bits, bytes, conversions. No function of the program is named. -/
import Derived.Test.YthhakdmlpngcmaaGreatDoorEx3
import Derived.Test.YthhakdmlpngcmaaGreatDoorBits
set_option linter.unusedVariables false
set_option linter.unusedSimpArgs false
namespace Gw
open Go Go.RowKit
section
variable{P:Program}{env:Env}{d:Option Nat}{ty:AM}{pos:String}{af:Array Edge}{g:Option (Nat×Bool)}
section
variable{t:AM}{x:Operand}{b o f m off:Nat}{fs:Array Field}{fl:Field}
theorem Ap(J:P.underlying t=some (.struct fs))(B:fs[f]?=some fl)(G:fl.offset=off)(I:∀w:AD,(Go.sizeOf fl.type).run P w= .ok (m+1) w)(K:∀a,ev a env x= .pointer (some ⟨b,o,none⟩)):
 OpP P ⟨d,.fieldAddr t x f,ty,pos,af,g⟩ env [] (.pointer (some ⟨b,o+off,none⟩)):=by
 subst G;exact Qg J B I K rfl
theorem AA(J:P.underlying t=some (.struct fs))(B:fs[f]?=some fl)(G:fl.offset=off)(I:∀w:AD,(Go.sizeOf fl.type).run P w= .ok (m+1) w)(K:∀a,ev a env x=I5 b):
 OpP P ⟨d,.fieldAddr t x f,ty,pos,af,g⟩ env [] (.pointer (some ⟨b,off,none⟩)):=by
 subst G;exact Qg J B I K (D3 _)
end
theorem O8(n:Nat)(h:n<=18446744073709551615):IntKind.u64.wrap (n:Int)=(n:Int):=by rw [IntKind.wrap_u64];omega
section
variable{t yt:AM}{x y:Operand}{m n:Nat}
theorem UX(G:∀a,ev a env x= .int .u64 (m:Int))(I:∀a,ev a env y= .int .u64 (n:Int))(B:n<=m)(J:m<=18446744073709551615):OpP P ⟨d,.binOp .sub t x y yt,ty,pos,af,g⟩ env [] (.int .u64 ((m -n:Nat):Int)):=
 FP G I (by rw [<-Int.ofNat_sub B];exact O8 _ A0)
theorem Q4{k I:IntKind}(B:∀a,ev a env x= .int k (m:Int))(G:∀a,ev a env y= .int I (n:Int))(J:n<=k.bits):OpP P ⟨d,.binOp .shr t x y yt,ty,pos,af,g⟩ env [] (.int k ((m/2^n:Nat):Int)):=
 rf B G A0 A0 (by rw [UP];simp)
theorem UY{J:IntKind}(G:∀a,ev a env x=I4 (m:Int))(I:∀a,ev a env y= .int J (n:Int))(K:n<=64)(B:m*2^n<=9223372036854775807):OpP P ⟨d,.binOp .shl t x y yt,ty,pos,af,g⟩ env [] (I4 ((m*2^n:Nat):Int)):=
 jG G I A0 (by simp [IntKind.bits];omega) (by rw [UP,<-EC _ B];simp)
theorem wM{J:IntKind}(G:∀a,ev a env x= .int .u64 (m:Int))(I:∀a,ev a env y= .int J (n:Int))(K:n<=64)(B:m*2^n<=18446744073709551615):OpP P ⟨d,.binOp .shl t x y yt,ty,pos,af,g⟩ env [] (.int .u64 ((m*2^n:Nat):Int)):=
 jG G I A0 (by simp [IntKind.bits];omega) (by rw [UP,<-O8 _ B];simp)
end
section
variable{t yt:AM}{x y:Operand}
theorem Df{p q:UInt32}(B:∀a,ev a env x= .int .u32 (p.toNat:Int))(G:∀a,ev a env y= .int .u32 (q.toNat:Int)):OpP P ⟨d,.binOp .add t x y yt,ty,pos,af,g⟩ env [] (.int .u32 ((p+q).toNat:Int)):=Gm B G (vq p q)
theorem FW{p q:UInt32}(B:∀a,ev a env x= .int .u32 (p.toNat:Int))(G:∀a,ev a env y= .int .u32 (q.toNat:Int)):OpP P ⟨d,.binOp .xor t x y yt,ty,pos,af,g⟩ env [] (.int .u32 ((p^^^q).toNat:Int)):=zC B G (zM p q)
theorem KO{p q:UInt32}(B:∀a,ev a env x= .int .u32 (p.toNat:Int))(G:∀a,ev a env y= .int .u32 (q.toNat:Int)):OpP P ⟨d,.binOp .and t x y yt,ty,pos,af,g⟩ env [] (.int .u32 ((p&&&q).toNat:Int)):=sG B G (vn p q)
theorem Oo{p q:UInt32}(B:∀a,ev a env x= .int .u32 (p.toNat:Int))(G:∀a,ev a env y= .int .u32 (q.toNat:Int)):OpP P ⟨d,.binOp .or t x y yt,ty,pos,af,g⟩ env [] (.int .u32 ((p|||q).toNat:Int)):=pB B G (xv p q)
theorem lg{p:UInt32}(B:∀a,ev a env x= .int .u32 (p.toNat:Int)):OpP P ⟨d,.unOp .xor t x,ty,pos,af,g⟩ env [] (.int .u32 ((~~~p).toNat:Int)):=ue B (vm p)
theorem Mj{p:UInt32}{k:IntKind}{n:Nat}(G:∀a,ev a env x= .int .u32 (p.toNat:Int))(I:∀a,ev a env y= .int k (n:Int))(B:n<32):OpP P ⟨d,.binOp .shr t x y yt,ty,pos,af,g⟩ env [] (.int .u32 ((p>>>UInt32.ofNat n).toNat:Int)):=
 rf G I A0 (by simp [IntKind.bits];omega) (by rw [UP,<-vj p n B];simp)
theorem Mk{p:UInt32}{k:IntKind}{n:Nat}(G:∀a,ev a env x= .int .u32 (p.toNat:Int))(I:∀a,ev a env y= .int k (n:Int))(B:n<32):OpP P ⟨d,.binOp .shl t x y yt,ty,pos,af,g⟩ env [] (.int .u32 ((p<<<UInt32.ofNat n).toNat:Int)):=
 jG G I A0 (by simp [IntKind.bits];omega) (by rw [UP,<-vl p n B];simp)
end
section
variable{s t:AM}{x:Operand}{ds:TypeDesc}
theorem II{p:UInt8}(B:P.underlying s=some ds)(G:P.underlying t=some (.int .u32))(I:∀a,ev a env x= .int .u8 (p.toNat:Int)):OpP P ⟨d,.convert s t x,ty,pos,af,g⟩ env [] (.int .u32 ((p.toUInt32).toNat:Int)):=
 Eu B G I (by rw [xr,IntKind.wrap_u32'];have:=tz p;omega)
theorem Ua{p:UInt32}(B:P.underlying s=some ds)(G:P.underlying t=some (.int .u8))(I:∀a,ev a env x= .int .u32 (p.toNat:Int)):OpP P ⟨d,.convert s t x,ty,pos,af,g⟩ env [] (.int .u8 ((p.toUInt8).toNat:Int)):=
 Eu B G I (xt p)
theorem TC{k:IntKind}{m:Nat}(G:P.underlying s=some ds)(I:P.underlying t=some (.int .i64))(J:∀a,ev a env x= .int k (m:Int))(B:m<=9223372036854775807):OpP P ⟨d,.convert s t x,ty,pos,af,g⟩ env [] (I4 (m:Int)):=
 Eu G I J (EC m B)
theorem M0{k:IntKind}{m:Nat}(B:P.underlying s=some ds)(G:P.underlying t=some (.int .u64))(I:∀a,ev a env x= .int k (m:Int))(J:m<=18446744073709551615):OpP P ⟨d,.convert s t x,ty,pos,af,g⟩ env [] (.int .u64 (m:Int)):=
 Eu B G I (by rw [IntKind.wrap_u64];omega)
theorem Ub{k:IntKind}{m:Nat}(B:P.underlying s=some ds)(G:P.underlying t=some (.int .u8))(I:∀a,ev a env x= .int k (m:Int))(J:m<=255):OpP P ⟨d,.convert s t x,ty,pos,af,g⟩ env [] (.int .u8 (m:Int)):=
 Eu B G I (IntWalk.u8_in _ A0)
theorem sF{k:IntKind}{m:Nat}(B:P.underlying s=some ds)(G:P.underlying t=some (.int .u32))(I:∀a,ev a env x= .int k (m:Int))(J:m<=4294967295):OpP P ⟨d,.convert s t x,ty,pos,af,g⟩ env [] (.int .u32 (m:Int)):=
 Eu B G I (IntWalk.u32_in _ A0)
def u8v(x:UInt8):A4:= .int .u8 (x.toNat:Int)
def Cz(x:UInt32):A4:= .int .u32 (x.toNat:Int)
def str(l:List UInt8):Bk:=⟨l.toArray⟩
theorem KN{e b i n cap:Nat}{c:AK}{T:AM}{z:Nat×Nat}{B:List UInt8}(X:P.underlying s=some (.slice e))(U:P.underlying e=some (.int .u8))(Z:P.underlying t=some .string)(hx:∀a,ev a env x= .slice (some ⟨b,i,none⟩) n cap)
 (hv:((c.toList.drop i).take n)=B.map u8v/\B.length=n):OpP P ⟨d,.convert s t x,ty,pos,af,g⟩ env [(b,.cells c T z)] (.string (str B)):=fun a w h=>by
 have O:=h (b,.cells c T z) (by simp);obtain ⟨hv,J⟩:=hv;have W:(loadCells ⟨b,i,none⟩ n).run P w= .ok (B.map u8v).toArray w:=by
  have:=run_loadCells_list (P:=P) w ⟨b,i,none⟩ (B.map u8v) (fun j v I=>by
   rw [Ca];refine Cr O ?_;rw [<-hv,HI]at I;split at I;· rw [RW]at I;simpa using I
   · cases I)
  rw [B6,J]at this;exact this
 have G:(convert s t (.slice (some ⟨b,i,none⟩) n cap)).run P w= .ok (.string (str B)) w:=by
  have K:(loadCells ⟨b,i,none⟩ n).run P w= .ok ((B.map fun x=>(x.toNat:Int)).map (Value.int .u8)).toArray w:=by
   rw [W,K0];rfl
  rw [run_convert_bytes_string w s t e _ n cap X U Z,run_bytesToString w _ n cap _ K,foldl_push_bytes];congr 2;simp only [str,ByteArray.mk.injEq];apply Array.ext';simp [ByteArray.empty,ByteArray.emptyWithCapacity,mS];rfl
 rw [K4,Sem.run_bind,hx a,G];rfl
end
end
end Gw
