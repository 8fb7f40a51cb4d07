/- Walking by chunks: fields, words of 32 bits, bytes, conversions. No function of the program is named. -/
import Derived.Test.YtkdgffcfmgmemaaGreatDoorEx3
import Derived.Test.YtkdgffcfmgmemaaGreatDoorBits
set_option linter.unusedVariables false
set_option linter.unusedSimpArgs false
namespace Gw
open Go Go.RowKit
section
variable{P:Program}{env:Env}{d:Option Nat}{ty:TypeId}{pos:String}{af:Array Edge}{g:Option (Nat×Bool)}
section
variable{t:TypeId}{x:Operand}{b o f m off:Nat}{fs:Array Field}{fl:Field}
theorem BH(hu:P.underlying t=some (.struct fs))(hf:fs[f]?=some fl)(ho:fl.offset=off)(hs:∀w:World,(Go.sizeOf fl.type).run P w= .ok (m+1) w)(hx:∀a,ev a env x= .pointer (some ⟨b,o,none⟩)):
 OpP P ⟨d,.fieldAddr t x f,ty,pos,af,g⟩ env [] (.pointer (some ⟨b,o+off,none⟩)):=by
 subst ho;exact Ot hu hf hs hx rfl
theorem AZ(hu:P.underlying t=some (.struct fs))(hf:fs[f]?=some fl)(ho:fl.offset=off)(hs:∀w:World,(Go.sizeOf fl.type).run P w= .ok (m+1) w)(hx:∀a,ev a env x=I5 b):
 OpP P ⟨d,.fieldAddr t x f,ty,pos,af,g⟩ env [] (.pointer (some ⟨b,off,none⟩)):=by
 subst ho;exact Ot hu hf hs hx (uL _)
end
def Uj(s:ByteArray)(j:Nat):UInt8:=s.data.getD j 0
theorem Yh(s:ByteArray)(j:Nat)(h:j<s.size):s.data[j]?=some (Uj s j):=by
 have h':j<s.data.size:=h;rw [tu h',Uj,uM,tu h',yL]
/- naturals in other kinds -/
theorem IQ(n:Nat)(h:n≤18446744073709551615):IntKind.u64.wrap (n:Int)=(n:Int):=by rw [IntKind.wrap_u64];omega
section
variable{t yt:TypeId}{x y:Operand}{m n:Nat}
theorem Rh(hx:∀a,ev a env x= .int .u64 (m:Int))(hy:∀a,ev a env y= .int .u64 (n:Int))(hb:m+n≤18446744073709551615):OpP P ⟨d,.binOp .add t x y yt,ty,pos,af,g⟩ env [] (.int .u64 ((m+n:Nat):Int)):=
 JI hx hy (by rw [←Int.natCast_add];exact IQ _ hb)
theorem Lv(hx:∀a,ev a env x= .int .u64 (m:Int))(hy:∀a,ev a env y= .int .u64 (n:Int))(hb:n≤m)(hm:m≤18446744073709551615):OpP P ⟨d,.binOp .sub t x y yt,ty,pos,af,g⟩ env [] (.int .u64 ((m -n:Nat):Int)):=
 G8 hx hy (by rw [←Int.ofNat_sub hb];exact IQ _ (by omega))
theorem M0(hx:∀a,ev a env x= .int .u64 (m:Int))(hy:∀a,ev a env y= .int .u64 (n:Int))(hb:m*n≤18446744073709551615):OpP P ⟨d,.binOp .mul t x y yt,ty,pos,af,g⟩ env [] (.int .u64 ((m*n:Nat):Int)):=
 ZO hx hy (by rw [←zK];exact IQ _ hb)
theorem OC{k yk:IntKind}(hx:∀a,ev a env x= .int k (m:Int))(hy:∀a,ev a env y= .int yk (n:Int))(hn:n≤k.bits):OpP P ⟨d,.binOp .shr t x y yt,ty,pos,af,g⟩ env [] (.int k ((m/2^n:Nat):Int)):=
 iZ hx hy (by omega) (by omega) (by rw [vZ];simp)
theorem Rb{yk:IntKind}(hx:∀a,ev a env x=I4 (m:Int))(hy:∀a,ev a env y= .int yk (n:Int))(hn:n≤64)(hb:m*2^n≤9223372036854775807):OpP P ⟨d,.binOp .shl t x y yt,ty,pos,af,g⟩ env [] (I4 ((m*2^n:Nat):Int)):=
 ZN hx hy (by omega) (by simp [IntKind.bits];omega) (by rw [vZ,←Et _ hb];simp)
theorem lF{yk:IntKind}(hx:∀a,ev a env x= .int .u64 (m:Int))(hy:∀a,ev a env y= .int yk (n:Int))(hn:n≤64)(hb:m*2^n≤18446744073709551615):OpP P ⟨d,.binOp .shl t x y yt,ty,pos,af,g⟩ env [] (.int .u64 ((m*2^n:Nat):Int)):=
 ZN hx hy (by omega) (by simp [IntKind.bits];omega) (by rw [vZ,←IQ _ hb];simp)
end
/- words -/
section
variable{t yt:TypeId}{x y:Operand}
theorem CK{p q:UInt32}(hx:∀a,ev a env x= .int .u32 (p.toNat:Int))(hy:∀a,ev a env y= .int .u32 (q.toNat:Int)):OpP P ⟨d,.binOp .add t x y yt,ty,pos,af,g⟩ env [] (.int .u32 ((p+q).toNat:Int)):=JI hx hy (rY p q)
theorem Cn{p q:UInt32}(hx:∀a,ev a env x= .int .u32 (p.toNat:Int))(hy:∀a,ev a env y= .int .u32 (q.toNat:Int)):OpP P ⟨d,.binOp .xor t x y yt,ty,pos,af,g⟩ env [] (.int .u32 ((p^^^q).toNat:Int)):=nz hx hy (oI p q)
theorem F8{p q:UInt32}(hx:∀a,ev a env x= .int .u32 (p.toNat:Int))(hy:∀a,ev a env y= .int .u32 (q.toNat:Int)):OpP P ⟨d,.binOp .and t x y yt,ty,pos,af,g⟩ env [] (.int .u32 ((p&&&q).toNat:Int)):=il hx hy (rX p q)
theorem Hl{p q:UInt32}(hx:∀a,ev a env x= .int .u32 (p.toNat:Int))(hy:∀a,ev a env y= .int .u32 (q.toNat:Int)):OpP P ⟨d,.binOp .or t x y yt,ty,pos,af,g⟩ env [] (.int .u32 ((p|||q).toNat:Int)):=qd hx hy (si p q)
theorem TK{p:UInt32}(hx:∀a,ev a env x= .int .u32 (p.toNat:Int)):OpP P ⟨d,.unOp .xor t x,ty,pos,af,g⟩ env [] (.int .u32 ((~~~p).toNat:Int)):=qf hx (rW p)
theorem F6{p:UInt32}{k:IntKind}{n:Nat}(hx:∀a,ev a env x= .int .u32 (p.toNat:Int))(hy:∀a,ev a env y= .int k (n:Int))(hn:n<32):OpP P ⟨d,.binOp .shr t x y yt,ty,pos,af,g⟩ env [] (.int .u32 ((p>>>UInt32.ofNat n).toNat:Int)):=
 iZ hx hy (by omega) (by simp [IntKind.bits];omega) (by rw [vZ,←rU p n hn];simp)
theorem G9{p:UInt32}{k:IntKind}{n:Nat}(hx:∀a,ev a env x= .int .u32 (p.toNat:Int))(hy:∀a,ev a env y= .int k (n:Int))(hn:n<32):OpP P ⟨d,.binOp .shl t x y yt,ty,pos,af,g⟩ env [] (.int .u32 ((p<<<UInt32.ofNat n).toNat:Int)):=
 ZN hx hy (by omega) (by simp [IntKind.bits];omega) (by rw [vZ,←rV p n hn];simp)
end
section
variable{s t:TypeId}{x:Operand}{ds:TypeDesc}
theorem EE{p:UInt8}(hs:P.underlying s=some ds)(ht:P.underlying t=some (.int .u32))(hx:∀a,ev a env x= .int .u8 (p.toNat:Int)):OpP P ⟨d,.convert s t x,ty,pos,af,g⟩ env [] (.int .u32 ((p.toUInt32).toNat:Int)):=
 Ea hs ht hx (by rw [sW,IntKind.wrap_u32'];have:=qP p;omega)
theorem Fb{p:UInt32}(hs:P.underlying s=some ds)(ht:P.underlying t=some (.int .u8))(hx:∀a,ev a env x= .int .u32 (p.toNat:Int)):OpP P ⟨d,.convert s t x,ty,pos,af,g⟩ env [] (.int .u8 ((p.toUInt8).toNat:Int)):=
 Ea hs ht hx (sZ p)
theorem Iu{k:IntKind}{m:Nat}(hs:P.underlying s=some ds)(ht:P.underlying t=some (.int .u64))(hx:∀a,ev a env x= .int k (m:Int))(hm:m≤18446744073709551615):OpP P ⟨d,.convert s t x,ty,pos,af,g⟩ env [] (.int .u64 (m:Int)):=
 Ea hs ht hx (by rw [IntKind.wrap_u64];omega)
theorem JW{k:IntKind}{m:Nat}(hs:P.underlying s=some ds)(ht:P.underlying t=some (.int .u8))(hx:∀a,ev a env x= .int k (m:Int))(hm:m≤255):OpP P ⟨d,.convert s t x,ty,pos,af,g⟩ env [] (.int .u8 (m:Int)):=
 Ea hs ht hx (IntWalk.u8_in _ (by omega))
theorem ik{k:IntKind}{m:Nat}(hs:P.underlying s=some ds)(ht:P.underlying t=some (.int .u32))(hx:∀a,ev a env x= .int k (m:Int))(hm:m≤4294967295):OpP P ⟨d,.convert s t x,ty,pos,af,g⟩ env [] (.int .u32 (m:Int)):=
 Ea hs ht hx (IntWalk.u32_in _ (by omega))
def u8v(x:UInt8):Value:= .int .u8 (x.toNat:Int)
def Bj(x:UInt32):Value:= .int .u32 (x.toNat:Int)
def str(l:List UInt8):ByteArray:=⟨l.toArray⟩
theorem D5{e b i n cap:Nat}{c:Array Value}{T:TypeId}{z:Nat×Nat}{bs:List UInt8}(hs:P.underlying s=some (.slice e))(he:P.underlying e=some (.int .u8))(ht:P.underlying t=some .string)(hx:∀a,ev a env x= .slice (some ⟨b,i,none⟩) n cap)
 (hv:((c.toList.drop i).take n)=bs.map u8v∧bs.length=n):OpP P ⟨d,.convert s t x,ty,pos,af,g⟩ env [(b,.cells c T z)] (.string (str bs)):=fun a w h=>by
 have hb:=h (b,.cells c T z) (by simp);obtain ⟨hv,hlen⟩:=hv;have hl:(loadCells ⟨b,i,none⟩ n).run P w= .ok (bs.map u8v).toArray w:=by
  have:=run_loadCells_list (P:=P) w ⟨b,i,none⟩ (bs.map u8v) (fun j v hj=>by
   rw [CJ];refine Cg hb ?_;rw [←hv,uX]at hj;split at hj
   · rw [uw]at hj;simpa using hj
   · cases hj)
  rw [tJ,hlen]at this;exact this
 have hconv:(convert s t (.slice (some ⟨b,i,none⟩) n cap)).run P w= .ok (.string (str bs)) w:=by
  have hl':(loadCells ⟨b,i,none⟩ n).run P w= .ok ((bs.map fun x=>(x.toNat:Int)).map (Value.int .u8)).toArray w:=by
   rw [hl,AA1];rfl
  rw [run_convert_bytes_string w s t e _ n cap hs he ht,run_bytesToString w _ n cap _ hl',foldl_push_bytes];congr 2;simp only [str,ByteArray.mk.injEq];apply Array.ext';simp [ByteArray.empty,ByteArray.emptyWithCapacity,yg];rfl
 rw [Nl,Sem.run_bind,hx a,hconv];rfl
end
end
end Gw
