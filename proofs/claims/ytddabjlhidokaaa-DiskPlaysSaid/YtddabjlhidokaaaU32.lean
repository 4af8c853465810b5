/- Words of 32 bits, as the walk spells them, against UInt32. No program in sight. -/
import Derived.WalkKit
import Derived.WalkLawsBesides
namespace Mur
open Go
/-- A word's number, behind a name: the walk's simp does not look into it. -/
def w32 (x : UInt32) : Int := (x.toNat : Int)
theorem w32_range (x : UInt32) : 0 ≤ w32 x ∧ w32 x ≤ 4294967295 := by
  have := x.toNat_lt
  unfold w32
  omega
theorem w32_inj {x y : UInt32} (h : w32 x = w32 y) : x = y := UInt32.toNat_inj.1 (by unfold w32 at h; omega)
theorem ofInt_w32 (a : UInt32) : BitVec.ofInt 32 (w32 a) = a.toBitVec := by
  rw [w32, BitVec.ofInt_natCast, UInt32.toNat, BitVec.ofNat_toNat, BitVec.setWidth_eq]
theorem wrap_w32 (a : UInt32) : IntKind.u32.wrap (w32 a) = w32 a := by
  rw [IntKind.wrap_u32]
  have := w32_range a
  omega
theorem bits_or_u32 (a b : UInt32) : bits .or .u32 (w32 a) (w32 b) = w32 (a ||| b) := by
  show IntKind.u32.wrap ((BitVec.ofInt 32 (w32 a) ||| BitVec.ofInt 32 (w32 b)).toNat : Int) = _
  rw [ofInt_w32, ofInt_w32]
  exact wrap_w32 (a ||| b)
theorem bits_and_u32 (a b : UInt32) : bits .and .u32 (w32 a) (w32 b) = w32 (a &&& b) := by
  show IntKind.u32.wrap ((BitVec.ofInt 32 (w32 a) &&& BitVec.ofInt 32 (w32 b)).toNat : Int) = _
  rw [ofInt_w32, ofInt_w32]
  exact wrap_w32 (a &&& b)
theorem bits_xor_u32 (a b : UInt32) : bits .xor .u32 (w32 a) (w32 b) = w32 (a ^^^ b) := by
  show IntKind.u32.wrap ((BitVec.ofInt 32 (w32 a) ^^^ BitVec.ofInt 32 (w32 b)).toNat : Int) = _
  rw [ofInt_w32, ofInt_w32]
  exact wrap_w32 (a ^^^ b)
theorem xor_ones (a : UInt32) : (4294967295 : UInt32) ^^^ a = ~~~a := by
  apply UInt32.toBitVec_inj.1
  rw [UInt32.toBitVec_xor, UInt32.toBitVec_not]
  exact BitVec.allOnes_xor
theorem bits_not_u32 (a : UInt32) : bits .xor .u32 IntKind.u32.max (w32 a) = w32 (~~~a) := by
  rw [← xor_ones, ← bits_xor_u32]
  rfl
theorem wrap_add_u32 (a b : UInt32) : IntKind.u32.wrap (w32 a + w32 b) = w32 (a + b) := by
  rw [IntKind.wrap_u32, w32, w32, w32, UInt32.toNat_add]
  omega
theorem wrap_not_u32 (a : UInt32) : IntKind.u32.wrap (4294967295 - w32 a) = w32 (~~~a) := by
  have h : (~~~a).toNat = 4294967295 - a.toNat := by simp
  have := a.toNat_lt
  rw [IntKind.wrap_u32, w32, w32, h]
  omega
theorem wrap_u32_u8 (b : UInt8) : IntKind.u32.wrap (b.toNat : Int) = w32 b.toUInt32 := by
  have := b.toNat_lt
  rw [IntKind.wrap_u32, w32, UInt8.toNat_toUInt32]
  omega
theorem shr_u32 (a : UInt32) (n : UInt32) (h : n.toNat < 32) (p : Int) (hp : p = 2 ^ n.toNat) : w32 a / p = w32 (a >>> n) := by
  rw [hp, w32, w32, UInt32.toNat_shiftRight, Nat.mod_eq_of_lt h, Nat.shiftRight_eq_div_pow]
  simp
theorem shl_u32 (a : UInt32) (n : UInt32) (h : n.toNat < 32) (p : Int) (hp : p = 2 ^ n.toNat) : w32 a * p % 4294967296 = w32 (a <<< n) := by
  rw [hp, w32, w32, UInt32.toNat_shiftLeft, Nat.mod_eq_of_lt h, Nat.shiftLeft_eq]
  simp
theorem wrap_shl_u32 (a : UInt32) (n : UInt32) (h : n.toNat < 32) (p : Int) (hp : p = 2 ^ n.toNat) : IntKind.u32.wrap (w32 a * p) = w32 (a <<< n) := by
  rw [IntKind.wrap_u32, shl_u32 a n h p hp]
theorem shr3 (a : UInt32) : w32 a / (8 : Int) = w32 (a >>> 3) := shr_u32 a 3 (by decide) 8 (by decide)
theorem shr10 (a : UInt32) : w32 a / (1024 : Int) = w32 (a >>> 10) := shr_u32 a 10 (by decide) 1024 (by decide)
theorem shl24 (a : UInt32) : IntKind.u32.wrap (w32 a * (16777216 : Int)) = w32 (a <<< 24) := wrap_shl_u32 a 24 (by decide) _ (by decide)
theorem shl16 (a : UInt32) : IntKind.u32.wrap (w32 a * (65536 : Int)) = w32 (a <<< 16) := wrap_shl_u32 a 16 (by decide) _ (by decide)
theorem shl8 (a : UInt32) : IntKind.u32.wrap (w32 a * (256 : Int)) = w32 (a <<< 8) := wrap_shl_u32 a 8 (by decide) _ (by decide)
end Mur
