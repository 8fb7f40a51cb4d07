/- Walking by chunks: fields, words of 32 bits, bytes, conversions. No function of the program is named. -/
import Derived.Test.YteaiajghbkenoaaGreatDoorEx3
import Derived.Test.YteaiajghbkenoaaGreatDoorBits
set_option linter.unusedVariables false
set_option linter.unusedSimpArgs false
namespace Gw
open Go Go.RowKit
section
variable{P:Program}{env:Env}{d:Option Nat}{ty:TypeId}{pos:String}{af:Array Edge}{g:Option (Nat×Bool)}
section
variable{t:TypeId}{x:Operand}{b o f m off:Nat}{fs:Array Field}{fl:Field}
theorem Ar(hu:P.underlying t=some (.struct fs))(hf:fs[f]?=some fl)(ho:fl.offset=off)(hs:∀w:World,(Go.sizeOf fl.type).run P w= .ok (m+1) w)(hx:∀a,ev a env x= .pointer (some ⟨b,o,none⟩)):
 OpP P ⟨d,.fieldAddr t x f,ty,pos,af,g⟩ env [] (.pointer (some ⟨b,o+off,none⟩)):=by
 subst ho;exact Q6 hu hf hs hx rfl
theorem AB(hu:P.underlying t=some (.struct fs))(hf:fs[f]?=some fl)(ho:fl.offset=off)(hs:∀w:World,(Go.sizeOf fl.type).run P w= .ok (m+1) w)(hx:∀a,ev a env x=I5 b):
 OpP P ⟨d,.fieldAddr t x f,ty,pos,af,g⟩ env [] (.pointer (some ⟨b,off,none⟩)):=by
 subst ho;exact Q6 hu hf hs hx (zo _)
end
/- naturals in other kinds -/
theorem Nf(n:Nat)(h:n<=18446744073709551615):IntKind.u64.wrap (n:Int)=(n:Int):=by rw [IntKind.wrap_u64];omega
section
variable{t yt:TypeId}{x y:Operand}{m n:Nat}
theorem Te(hx:∀a,ev a env x= .int .u64 (m:Int))(hy:∀a,ev a env y= .int .u64 (n:Int))(hb:n<=m)(hm:m<=18446744073709551615):OpP P ⟨d,.binOp .sub t x y yt,ty,pos,af,g⟩ env [] (.int .u64 ((m -n:Nat):Int)):=
 Hz hx hy (by rw [<-Int.ofNat_sub hb];exact Nf _ Ao7)
theorem PS{k yk:IntKind}(hx:∀a,ev a env x= .int k (m:Int))(hy:∀a,ev a env y= .int yk (n:Int))(hn:n<=k.bits):OpP P ⟨d,.binOp .shr t x y yt,ty,pos,af,g⟩ env [] (.int k ((m/2^n:Nat):Int)):=
 nC hx hy Ao7 Ao7 (by rw [AH7];simp)
theorem Tf{yk:IntKind}(hx:∀a,ev a env x=I4 (m:Int))(hy:∀a,ev a env y= .int yk (n:Int))(hn:n<=64)(hb:m*2^n<=9223372036854775807):OpP P ⟨d,.binOp .shl t x y yt,ty,pos,af,g⟩ env [] (I4 ((m*2^n:Nat):Int)):=
 eQ hx hy Ao7 (by simp [IntKind.bits];omega) (by rw [AH7,<-Du _ hb];simp)
theorem rD{yk:IntKind}(hx:∀a,ev a env x= .int .u64 (m:Int))(hy:∀a,ev a env y= .int yk (n:Int))(hn:n<=64)(hb:m*2^n<=18446744073709551615):OpP P ⟨d,.binOp .shl t x y yt,ty,pos,af,g⟩ env [] (.int .u64 ((m*2^n:Nat):Int)):=
 eQ hx hy Ao7 (by simp [IntKind.bits];omega) (by rw [AH7,<-Nf _ hb];simp)
end
/- words -/
section
variable{t yt:TypeId}{x y:Operand}
theorem DN{p q:UInt32}(hx:∀a,ev a env x= .int .u32 (p.toNat:Int))(hy:∀a,ev a env y= .int .u32 (q.toNat:Int)):OpP P ⟨d,.binOp .add t x y yt,ty,pos,af,g⟩ env [] (.int .u32 ((p+q).toNat:Int)):=Ke hx hy (yJ p q)
theorem FB{p q:UInt32}(hx:∀a,ev a env x= .int .u32 (p.toNat:Int))(hy:∀a,ev a env y= .int .u32 (q.toNat:Int)):OpP P ⟨d,.binOp .xor t x y yt,ty,pos,af,g⟩ env [] (.int .u32 ((p^^^q).toNat:Int)):=vF hx hy (vN p q)
theorem Jq{p q:UInt32}(hx:∀a,ev a env x= .int .u32 (p.toNat:Int))(hy:∀a,ev a env y= .int .u32 (q.toNat:Int)):OpP P ⟨d,.binOp .and t x y yt,ty,pos,af,g⟩ env [] (.int .u32 ((p&&&q).toNat:Int)):=nK hx hy (yI p q)
theorem OC{p q:UInt32}(hx:∀a,ev a env x= .int .u32 (p.toNat:Int))(hy:∀a,ev a env y= .int .u32 (q.toNat:Int)):OpP P ⟨d,.binOp .or t x y yt,ty,pos,af,g⟩ env [] (.int .u32 ((p|||q).toNat:Int)):=xS hx hy (zA p q)
theorem iT{p:UInt32}(hx:∀a,ev a env x= .int .u32 (p.toNat:Int)):OpP P ⟨d,.unOp .xor t x,ty,pos,af,g⟩ env [] (.int .u32 ((~~~p).toNat:Int)):=xU hx (yH p)
theorem M0{p:UInt32}{k:IntKind}{n:Nat}(hx:∀a,ev a env x= .int .u32 (p.toNat:Int))(hy:∀a,ev a env y= .int k (n:Int))(hn:n<32):OpP P ⟨d,.binOp .shr t x y yt,ty,pos,af,g⟩ env [] (.int .u32 ((p>>>UInt32.ofNat n).toNat:Int)):=
 nC hx hy Ao7 (by simp [IntKind.bits];omega) (by rw [AH7,<-yF p n hn];simp)
theorem M3{p:UInt32}{k:IntKind}{n:Nat}(hx:∀a,ev a env x= .int .u32 (p.toNat:Int))(hy:∀a,ev a env y= .int k (n:Int))(hn:n<32):OpP P ⟨d,.binOp .shl t x y yt,ty,pos,af,g⟩ env [] (.int .u32 ((p<<<UInt32.ofNat n).toNat:Int)):=
 eQ hx hy Ao7 (by simp [IntKind.bits];omega) (by rw [AH7,<-yG p n hn];simp)
end
section
variable{s t:TypeId}{x:Operand}{ds:TypeDesc}
theorem Hg{p:UInt8}(hs:P.underlying s=some ds)(ht:P.underlying t=some (.int .u32))(hx:∀a,ev a env x= .int .u8 (p.toNat:Int)):OpP P ⟨d,.convert s t x,ty,pos,af,g⟩ env [] (.int .u32 ((p.toUInt32).toNat:Int)):=
 EU hs ht hx (by rw [yz,IntKind.wrap_u32'];have:=xH p;omega)
theorem Tj{p:UInt32}(hs:P.underlying s=some ds)(ht:P.underlying t=some (.int .u8))(hx:∀a,ev a env x= .int .u32 (p.toNat:Int)):OpP P ⟨d,.convert s t x,ty,pos,af,g⟩ env [] (.int .u8 ((p.toUInt8).toNat:Int)):=
 EU hs ht hx (z8 p)
theorem Ry{k:IntKind}{m:Nat}(hs:P.underlying s=some ds)(ht:P.underlying t=some (.int .i64))(hx:∀a,ev a env x= .int k (m:Int))(hm:m<=9223372036854775807):OpP P ⟨d,.convert s t x,ty,pos,af,g⟩ env [] (I4 (m:Int)):=
 EU hs ht hx (Du m hm)
theorem LM{k:IntKind}{m:Nat}(hs:P.underlying s=some ds)(ht:P.underlying t=some (.int .u64))(hx:∀a,ev a env x= .int k (m:Int))(hm:m<=18446744073709551615):OpP P ⟨d,.convert s t x,ty,pos,af,g⟩ env [] (.int .u64 (m:Int)):=
 EU hs ht hx (by rw [IntKind.wrap_u64];omega)
theorem Tk{k:IntKind}{m:Nat}(hs:P.underlying s=some ds)(ht:P.underlying t=some (.int .u8))(hx:∀a,ev a env x= .int k (m:Int))(hm:m<=255):OpP P ⟨d,.convert s t x,ty,pos,af,g⟩ env [] (.int .u8 (m:Int)):=
 EU hs ht hx (IntWalk.u8_in _ Ao7)
theorem nJ{k:IntKind}{m:Nat}(hs:P.underlying s=some ds)(ht:P.underlying t=some (.int .u32))(hx:∀a,ev a env x= .int k (m:Int))(hm:m<=4294967295):OpP P ⟨d,.convert s t x,ty,pos,af,g⟩ env [] (.int .u32 (m:Int)):=
 EU hs ht hx (IntWalk.u32_in _ Ao7)
def u8v(x:UInt8):Value:= .int .u8 (x.toNat:Int)
def Ch(x:UInt32):Value:= .int .u32 (x.toNat:Int)
def str(l:List UInt8):ByteArray:=⟨l.toArray⟩
theorem Jp{e b i n cap:Nat}{c:Array Value}{T:TypeId}{z:Nat×Nat}{bs:List UInt8}(hs:P.underlying s=some (.slice e))(he:P.underlying e=some (.int .u8))(ht:P.underlying t=some .string)(hx:∀a,ev a env x= .slice (some ⟨b,i,none⟩) n cap)
 (hv:((c.toList.drop i).take n)=bs.map u8v/\bs.length=n):OpP P ⟨d,.convert s t x,ty,pos,af,g⟩ env [(b,.cells c T z)] (.string (str bs)):=fun a w h=>by
 have hb:=h (b,.cells c T z) (by simp);obtain ⟨hv,hlen⟩:=hv;have hl:(loadCells ⟨b,i,none⟩ n).run P w= .ok (bs.map u8v).toArray w:=by
  have:=run_loadCells_list (P:=P) w ⟨b,i,none⟩ (bs.map u8v) (fun j v hj=>by
   rw [Cn];refine Cb hb ?_;rw [<-hv,AA7]at hj;split at hj
   · rw [AE1]at hj;simpa using hj
   · cases hj)
  rw [zH,hlen]at this;exact this
 have hconv:(convert s t (.slice (some ⟨b,i,none⟩) n cap)).run P w= .ok (.string (str bs)) w:=by
  have hl':(loadCells ⟨b,i,none⟩ n).run P w= .ok ((bs.map fun x=>(x.toNat:Int)).map (Value.int .u8)).toArray w:=by
   rw [hl,AF0];rfl
  rw [run_convert_bytes_string w s t e _ n cap hs he ht,run_bytesToString w _ n cap _ hl',foldl_push_bytes];congr 2;simp only [str,ByteArray.mk.injEq];apply Array.ext';simp [ByteArray.empty,ByteArray.emptyWithCapacity,AP0];rfl
 rw [Jd,Sem.run_bind,hx a,hconv];rfl
end
end
end Gw
