/- Walking by chunks: fields, words of 32 bits, bytes, conversions. No function of the program is named. -/
import Derived.Test.YtkgmgmkbgnkdnaaGreatDoorEx3
import Derived.Test.YtkgmgmkbgnkdnaaGreatDoorBits

namespace Gw
open Go Go.RowKit
section
variable {P : Program} {env : Env} {d : Option Nat} {ty : TypeId} {pos : String} {af : Array Edge} {g : Option (Nat × Bool)}
section
variable {t : TypeId} {x : Operand} {b o f m off : Nat} {fs : Array Field} {fl : Field}
theorem p_fieldAddr1 (hu : P.underlying t = some (.struct fs)) (hf : fs[f]? = some fl) (ho : fl.offset = off) (hs : ∀ w : World, (Go.sizeOf fl.type).run P w = .ok (m + 1) w) (hx : ∀ a, ev a env x = .pointer (some ⟨b, o, none⟩)) :
    OpP P ⟨d, .fieldAddr t x f, ty, pos, af, g⟩ env [] (.pointer (some ⟨b, o + off, none⟩)) := by
  subst ho; exact p_fieldAddr hu hf hs hx rfl
theorem p_fieldAddr0 (hu : P.underlying t = some (.struct fs)) (hf : fs[f]? = some fl) (ho : fl.offset = off) (hs : ∀ w : World, (Go.sizeOf fl.type).run P w = .ok (m + 1) w) (hx : ∀ a, ev a env x = .pointer (some ⟨b, 0, none⟩)) :
    OpP P ⟨d, .fieldAddr t x f, ty, pos, af, g⟩ env [] (.pointer (some ⟨b, off, none⟩)) := by
  subst ho; exact p_fieldAddr hu hf hs hx (Nat.zero_add _)
end
/- naturals in other kinds -/
theorem wrap_u64_nat (n : Nat) (h : n ≤ 18446744073709551615) : IntKind.u64.wrap (n : Int) = (n : Int) := by rw [IntKind.wrap_u64]; omega
section
variable {t yt : TypeId} {x y : Operand} {m n : Nat}
theorem p_sub_nat_u64 (hx : ∀ a, ev a env x = .int .u64 (m : Int)) (hy : ∀ a, ev a env y = .int .u64 (n : Int)) (hb : n ≤ m) (hm : m ≤ 18446744073709551615) : OpP P ⟨d, .binOp .sub t x y yt, ty, pos, af, g⟩ env [] (.int .u64 ((m - n : Nat) : Int)) :=
  p_sub hx hy (by rw [← Int.ofNat_sub hb]; exact wrap_u64_nat _ (by omega))
theorem p_shr_nat {k yk : IntKind} (hx : ∀ a, ev a env x = .int k (m : Int)) (hy : ∀ a, ev a env y = .int yk (n : Int)) (hn : n ≤ k.bits) : OpP P ⟨d, .binOp .shr t x y yt, ty, pos, af, g⟩ env [] (.int k ((m / 2 ^ n : Nat) : Int)) :=
  p_shr hx hy (by omega) (by omega) (by rw [Int.toNat_natCast]; simp)
theorem p_shl_nat_i64 {yk : IntKind} (hx : ∀ a, ev a env x = .int .i64 (m : Int)) (hy : ∀ a, ev a env y = .int yk (n : Int)) (hn : n ≤ 64) (hb : m * 2 ^ n ≤ 9223372036854775807) : OpP P ⟨d, .binOp .shl t x y yt, ty, pos, af, g⟩ env [] (.int .i64 ((m * 2 ^ n : Nat) : Int)) :=
  p_shl hx hy (by omega) (by simp [IntKind.bits]; omega) (by rw [Int.toNat_natCast, ← wrap_i64_nat _ hb]; simp)
theorem p_shl_nat_u64 {yk : IntKind} (hx : ∀ a, ev a env x = .int .u64 (m : Int)) (hy : ∀ a, ev a env y = .int yk (n : Int)) (hn : n ≤ 64) (hb : m * 2 ^ n ≤ 18446744073709551615) : OpP P ⟨d, .binOp .shl t x y yt, ty, pos, af, g⟩ env [] (.int .u64 ((m * 2 ^ n : Nat) : Int)) :=
  p_shl hx hy (by omega) (by simp [IntKind.bits]; omega) (by rw [Int.toNat_natCast, ← wrap_u64_nat _ hb]; simp)
end
/- words -/
section
variable {t yt : TypeId} {x y : Operand}
theorem p_add_u32 {p q : UInt32} (hx : ∀ a, ev a env x = .int .u32 (p.toNat : Int)) (hy : ∀ a, ev a env y = .int .u32 (q.toNat : Int)) : OpP P ⟨d, .binOp .add t x y yt, ty, pos, af, g⟩ env [] (.int .u32 ((p + q).toNat : Int)) := p_add hx hy (b_add p q)
theorem p_xor_u32 {p q : UInt32} (hx : ∀ a, ev a env x = .int .u32 (p.toNat : Int)) (hy : ∀ a, ev a env y = .int .u32 (q.toNat : Int)) : OpP P ⟨d, .binOp .xor t x y yt, ty, pos, af, g⟩ env [] (.int .u32 ((p ^^^ q).toNat : Int)) := p_xor hx hy (b_xor p q)
theorem p_and_u32 {p q : UInt32} (hx : ∀ a, ev a env x = .int .u32 (p.toNat : Int)) (hy : ∀ a, ev a env y = .int .u32 (q.toNat : Int)) : OpP P ⟨d, .binOp .and t x y yt, ty, pos, af, g⟩ env [] (.int .u32 ((p &&& q).toNat : Int)) := p_and hx hy (b_and p q)
theorem p_or_u32 {p q : UInt32} (hx : ∀ a, ev a env x = .int .u32 (p.toNat : Int)) (hy : ∀ a, ev a env y = .int .u32 (q.toNat : Int)) : OpP P ⟨d, .binOp .or t x y yt, ty, pos, af, g⟩ env [] (.int .u32 ((p ||| q).toNat : Int)) := p_or hx hy (b_or p q)
theorem p_cpl_u32 {p : UInt32} (hx : ∀ a, ev a env x = .int .u32 (p.toNat : Int)) : OpP P ⟨d, .unOp .xor t x, ty, pos, af, g⟩ env [] (.int .u32 ((~~~p).toNat : Int)) := p_cpl hx (b_not p)
theorem p_shr_u32 {p : UInt32} {k : IntKind} {n : Nat} (hx : ∀ a, ev a env x = .int .u32 (p.toNat : Int)) (hy : ∀ a, ev a env y = .int k (n : Int)) (hn : n < 32) : OpP P ⟨d, .binOp .shr t x y yt, ty, pos, af, g⟩ env [] (.int .u32 ((p >>> UInt32.ofNat n).toNat : Int)) :=
  p_shr hx hy (by omega) (by simp [IntKind.bits]; omega) (by rw [Int.toNat_natCast, ← b_shr p n hn]; simp)
theorem p_shl_u32 {p : UInt32} {k : IntKind} {n : Nat} (hx : ∀ a, ev a env x = .int .u32 (p.toNat : Int)) (hy : ∀ a, ev a env y = .int k (n : Int)) (hn : n < 32) : OpP P ⟨d, .binOp .shl t x y yt, ty, pos, af, g⟩ env [] (.int .u32 ((p <<< UInt32.ofNat n).toNat : Int)) :=
  p_shl hx hy (by omega) (by simp [IntKind.bits]; omega) (by rw [Int.toNat_natCast, ← b_shl p n hn]; simp)
end
section
variable {s t : TypeId} {x : Operand} {ds : TypeDesc}
theorem p_conv_u8_u32 {p : UInt8} (hs : P.underlying s = some ds) (ht : P.underlying t = some (.int .u32)) (hx : ∀ a, ev a env x = .int .u8 (p.toNat : Int)) : OpP P ⟨d, .convert s t x, ty, pos, af, g⟩ env [] (.int .u32 ((p.toUInt32).toNat : Int)) :=
  p_conv_int hs ht hx (by rw [b_up, IntKind.wrap_u32']; have := u8_lt p; omega)
theorem p_conv_u32_u8 {p : UInt32} (hs : P.underlying s = some ds) (ht : P.underlying t = some (.int .u8)) (hx : ∀ a, ev a env x = .int .u32 (p.toNat : Int)) : OpP P ⟨d, .convert s t x, ty, pos, af, g⟩ env [] (.int .u8 ((p.toUInt8).toNat : Int)) :=
  p_conv_int hs ht hx (b_u8 p)
theorem p_conv_nat_u64 {k : IntKind} {m : Nat} (hs : P.underlying s = some ds) (ht : P.underlying t = some (.int .u64)) (hx : ∀ a, ev a env x = .int k (m : Int)) (hm : m ≤ 18446744073709551615) : OpP P ⟨d, .convert s t x, ty, pos, af, g⟩ env [] (.int .u64 (m : Int)) :=
  p_conv_int hs ht hx (by rw [IntKind.wrap_u64]; omega)
theorem p_conv_nat_u8 {k : IntKind} {m : Nat} (hs : P.underlying s = some ds) (ht : P.underlying t = some (.int .u8)) (hx : ∀ a, ev a env x = .int k (m : Int)) (hm : m ≤ 255) : OpP P ⟨d, .convert s t x, ty, pos, af, g⟩ env [] (.int .u8 (m : Int)) :=
  p_conv_int hs ht hx (IntWalk.u8_in _ (by omega))
theorem p_conv_nat_u32 {k : IntKind} {m : Nat} (hs : P.underlying s = some ds) (ht : P.underlying t = some (.int .u32)) (hx : ∀ a, ev a env x = .int k (m : Int)) (hm : m ≤ 4294967295) : OpP P ⟨d, .convert s t x, ty, pos, af, g⟩ env [] (.int .u32 (m : Int)) :=
  p_conv_int hs ht hx (IntWalk.u32_in _ (by omega))
def u8v (x : UInt8) : Value := .int .u8 (x.toNat : Int)
def u32v (x : UInt32) : Value := .int .u32 (x.toNat : Int)
def str (l : List UInt8) : ByteArray := ⟨l.toArray⟩
theorem p_conv_bytes_str {e b i n cap : Nat} {c : Array Value} {T : TypeId} {z : Nat × Nat} {bs : List UInt8} (hs : P.underlying s = some (.slice e)) (he : P.underlying e = some (.int .u8)) (ht : P.underlying t = some .string) (hx : ∀ a, ev a env x = .slice (some ⟨b, i, none⟩) n cap)
    (hv : ((c.toList.drop i).take n) = bs.map u8v ∧ bs.length = n) : OpP P ⟨d, .convert s t x, ty, pos, af, g⟩ env [(b, .cells c T z)] (.string (str bs)) := fun a w h => by
  have hb := h (b, .cells c T z) (by simp)
  obtain ⟨hv, hlen⟩ := hv
  have hl : (loadCells ⟨b, i, none⟩ n).run P w = .ok (bs.map u8v).toArray w := by
    have := run_loadCells_list (P := P) w ⟨b, i, none⟩ (bs.map u8v) (fun j v hj => by
      rw [add_addr]
      refine sat_cell hb ?_
      rw [← hv, List.getElem?_take] at hj
      split at hj
      · rw [List.getElem?_drop] at hj; simpa using hj
      · cases hj)
    rw [List.length_map, hlen] at this
    exact this
  have hconv : (convert s t (.slice (some ⟨b, i, none⟩) n cap)).run P w = .ok (.string (str bs)) w := by
    have hl' : (loadCells ⟨b, i, none⟩ n).run P w = .ok ((bs.map fun x => (x.toNat : Int)).map (Value.int .u8)).toArray w := by
      rw [hl, List.map_map]; rfl
    rw [run_convert_bytes_string w s t e _ n cap hs he ht, run_bytesToString w _ n cap _ hl', foldl_push_bytes]
    congr 2
    simp only [str, ByteArray.mk.injEq]
    apply Array.ext'
    simp [ByteArray.empty, ByteArray.emptyWithCapacity, Function.comp_def]
    rfl
  rw [x_convert, Sem.run_bind, hx a, hconv]; rfl
end
end
end Gw
