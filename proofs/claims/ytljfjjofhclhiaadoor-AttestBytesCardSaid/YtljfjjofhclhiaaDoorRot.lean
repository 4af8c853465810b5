/- The turning of a word, walked: math/bits.RotateLeft32, sha.right, the reference's turn. -/
import Derived.Test.YtljfjjofhclhiaaDoorProg
import Derived.Test.YtljfjjofhclhiaaDoorSpec
import Derived.Test.YtljfjjofhclhiaaDoorU32
import Derived.WalkKit
import Derived.WalkLawsBesides
import Derived.WalkSpells
namespace Go.Proofs.YtljfjjofhclhiaaDoor
open Go.RowKit
theorem rot_shape (x : UInt32) (n : UInt32) (m : UInt32) (p q : Int) (hn : n.toNat < 32) (hm : m.toNat < 32) (hp : p = 2 ^ m.toNat) (hq : q = 2 ^ n.toNat) (hs : 32 - n = m) :
    bits BinOp.or IntKind.u32 (Mur.w32 x * p % 4294967296) (Mur.w32 x / q) = Mur.w32 (Mur.rotr x n) := by
  rw [Mur.shl_u32 x m hm p hp, Mur.shr_u32 x n hn q hq, Mur.bits_or_u32, UInt32.or_comm, ← hs]
  rfl
theorem rot_shape' (x : UInt32) (n : UInt32) (m : UInt32) (p q : Int) (hn : n.toNat < 32) (hm : m.toNat < 32) (hp : p = 2 ^ m.toNat) (hq : q = 2 ^ n.toNat) (hs : 32 - n = m) :
    bits BinOp.or IntKind.u32 (Mur.w32 x / q) (Mur.w32 x * p % 4294967296) = Mur.w32 (Mur.rotr x n) := by
  rw [Mur.shl_u32 x m hm p hp, Mur.shr_u32 x n hn q hq, Mur.bits_or_u32, ← hs]
  rfl
theorem ret_u32 {a b : Int} (h : a = b) : Ending.returned (.int .u32 a) = .returned (.int .u32 b) := by rw [h]
theorem rotl_2 (x : UInt32) (w : World) : Calls Tryd.prog 55 #[.int .u32 (Mur.w32 x), .int .i64 (-2)] w fun e w' => e = .returned (.int .u32 (Mur.w32 (Mur.rotr x 2))) ∧ w = w' := by
  have he : bits BinOp.and IntKind.u64 (IntKind.u64.wrap (-2)) 31 = 30 := by decide
  go_enter Tryd.func55, Tryd.ntmps55
  go_wp2
  go_ret
  exact ⟨ret_u32 (rot_shape x 2 30 _ _ (by decide) (by decide) (by decide) (by decide) (by decide)), rfl⟩
theorem right_2 (x : UInt32) (w : World) : Calls Tryd.prog 52 #[.int .u32 (Mur.w32 x), .int .i64 2] w fun e w' => e = .returned (.int .u32 (Mur.w32 (Mur.rotr x 2))) ∧ w = w' := by
  go_enter Tryd.func52, Tryd.ntmps52
  go_wp2_with (go_at_call 55; refine (rotl_2 _ _).mono ?_; rintro e w' ⟨rfl, rfl⟩)
  go_ret
  exact ⟨rfl, rfl⟩
theorem turn_2 (x : UInt32) (w : World) : Calls Tryd.prog 54 #[.int .u32 (Mur.w32 x), .int .u64 2] w fun e w' => e = .returned (.int .u32 (Mur.w32 (Mur.rotr x 2))) ∧ w = w' := by
  go_enter Tryd.func54, Tryd.ntmps54
  go_wp2
  go_ret
  exact ⟨ret_u32 (rot_shape' x 2 30 _ _ (by decide) (by decide) (by decide) (by decide) (by decide)), rfl⟩
theorem rotl_6 (x : UInt32) (w : World) : Calls Tryd.prog 55 #[.int .u32 (Mur.w32 x), .int .i64 (-6)] w fun e w' => e = .returned (.int .u32 (Mur.w32 (Mur.rotr x 6))) ∧ w = w' := by
  have he : bits BinOp.and IntKind.u64 (IntKind.u64.wrap (-6)) 31 = 26 := by decide
  go_enter Tryd.func55, Tryd.ntmps55
  go_wp2
  go_ret
  exact ⟨ret_u32 (rot_shape x 6 26 _ _ (by decide) (by decide) (by decide) (by decide) (by decide)), rfl⟩
theorem right_6 (x : UInt32) (w : World) : Calls Tryd.prog 52 #[.int .u32 (Mur.w32 x), .int .i64 6] w fun e w' => e = .returned (.int .u32 (Mur.w32 (Mur.rotr x 6))) ∧ w = w' := by
  go_enter Tryd.func52, Tryd.ntmps52
  go_wp2_with (go_at_call 55; refine (rotl_6 _ _).mono ?_; rintro e w' ⟨rfl, rfl⟩)
  go_ret
  exact ⟨rfl, rfl⟩
theorem turn_6 (x : UInt32) (w : World) : Calls Tryd.prog 54 #[.int .u32 (Mur.w32 x), .int .u64 6] w fun e w' => e = .returned (.int .u32 (Mur.w32 (Mur.rotr x 6))) ∧ w = w' := by
  go_enter Tryd.func54, Tryd.ntmps54
  go_wp2
  go_ret
  exact ⟨ret_u32 (rot_shape' x 6 26 _ _ (by decide) (by decide) (by decide) (by decide) (by decide)), rfl⟩
theorem rotl_7 (x : UInt32) (w : World) : Calls Tryd.prog 55 #[.int .u32 (Mur.w32 x), .int .i64 (-7)] w fun e w' => e = .returned (.int .u32 (Mur.w32 (Mur.rotr x 7))) ∧ w = w' := by
  have he : bits BinOp.and IntKind.u64 (IntKind.u64.wrap (-7)) 31 = 25 := by decide
  go_enter Tryd.func55, Tryd.ntmps55
  go_wp2
  go_ret
  exact ⟨ret_u32 (rot_shape x 7 25 _ _ (by decide) (by decide) (by decide) (by decide) (by decide)), rfl⟩
theorem right_7 (x : UInt32) (w : World) : Calls Tryd.prog 52 #[.int .u32 (Mur.w32 x), .int .i64 7] w fun e w' => e = .returned (.int .u32 (Mur.w32 (Mur.rotr x 7))) ∧ w = w' := by
  go_enter Tryd.func52, Tryd.ntmps52
  go_wp2_with (go_at_call 55; refine (rotl_7 _ _).mono ?_; rintro e w' ⟨rfl, rfl⟩)
  go_ret
  exact ⟨rfl, rfl⟩
theorem turn_7 (x : UInt32) (w : World) : Calls Tryd.prog 54 #[.int .u32 (Mur.w32 x), .int .u64 7] w fun e w' => e = .returned (.int .u32 (Mur.w32 (Mur.rotr x 7))) ∧ w = w' := by
  go_enter Tryd.func54, Tryd.ntmps54
  go_wp2
  go_ret
  exact ⟨ret_u32 (rot_shape' x 7 25 _ _ (by decide) (by decide) (by decide) (by decide) (by decide)), rfl⟩
theorem rotl_11 (x : UInt32) (w : World) : Calls Tryd.prog 55 #[.int .u32 (Mur.w32 x), .int .i64 (-11)] w fun e w' => e = .returned (.int .u32 (Mur.w32 (Mur.rotr x 11))) ∧ w = w' := by
  have he : bits BinOp.and IntKind.u64 (IntKind.u64.wrap (-11)) 31 = 21 := by decide
  go_enter Tryd.func55, Tryd.ntmps55
  go_wp2
  go_ret
  exact ⟨ret_u32 (rot_shape x 11 21 _ _ (by decide) (by decide) (by decide) (by decide) (by decide)), rfl⟩
theorem right_11 (x : UInt32) (w : World) : Calls Tryd.prog 52 #[.int .u32 (Mur.w32 x), .int .i64 11] w fun e w' => e = .returned (.int .u32 (Mur.w32 (Mur.rotr x 11))) ∧ w = w' := by
  go_enter Tryd.func52, Tryd.ntmps52
  go_wp2_with (go_at_call 55; refine (rotl_11 _ _).mono ?_; rintro e w' ⟨rfl, rfl⟩)
  go_ret
  exact ⟨rfl, rfl⟩
theorem turn_11 (x : UInt32) (w : World) : Calls Tryd.prog 54 #[.int .u32 (Mur.w32 x), .int .u64 11] w fun e w' => e = .returned (.int .u32 (Mur.w32 (Mur.rotr x 11))) ∧ w = w' := by
  go_enter Tryd.func54, Tryd.ntmps54
  go_wp2
  go_ret
  exact ⟨ret_u32 (rot_shape' x 11 21 _ _ (by decide) (by decide) (by decide) (by decide) (by decide)), rfl⟩
theorem rotl_13 (x : UInt32) (w : World) : Calls Tryd.prog 55 #[.int .u32 (Mur.w32 x), .int .i64 (-13)] w fun e w' => e = .returned (.int .u32 (Mur.w32 (Mur.rotr x 13))) ∧ w = w' := by
  have he : bits BinOp.and IntKind.u64 (IntKind.u64.wrap (-13)) 31 = 19 := by decide
  go_enter Tryd.func55, Tryd.ntmps55
  go_wp2
  go_ret
  exact ⟨ret_u32 (rot_shape x 13 19 _ _ (by decide) (by decide) (by decide) (by decide) (by decide)), rfl⟩
theorem right_13 (x : UInt32) (w : World) : Calls Tryd.prog 52 #[.int .u32 (Mur.w32 x), .int .i64 13] w fun e w' => e = .returned (.int .u32 (Mur.w32 (Mur.rotr x 13))) ∧ w = w' := by
  go_enter Tryd.func52, Tryd.ntmps52
  go_wp2_with (go_at_call 55; refine (rotl_13 _ _).mono ?_; rintro e w' ⟨rfl, rfl⟩)
  go_ret
  exact ⟨rfl, rfl⟩
theorem turn_13 (x : UInt32) (w : World) : Calls Tryd.prog 54 #[.int .u32 (Mur.w32 x), .int .u64 13] w fun e w' => e = .returned (.int .u32 (Mur.w32 (Mur.rotr x 13))) ∧ w = w' := by
  go_enter Tryd.func54, Tryd.ntmps54
  go_wp2
  go_ret
  exact ⟨ret_u32 (rot_shape' x 13 19 _ _ (by decide) (by decide) (by decide) (by decide) (by decide)), rfl⟩
theorem rotl_17 (x : UInt32) (w : World) : Calls Tryd.prog 55 #[.int .u32 (Mur.w32 x), .int .i64 (-17)] w fun e w' => e = .returned (.int .u32 (Mur.w32 (Mur.rotr x 17))) ∧ w = w' := by
  have he : bits BinOp.and IntKind.u64 (IntKind.u64.wrap (-17)) 31 = 15 := by decide
  go_enter Tryd.func55, Tryd.ntmps55
  go_wp2
  go_ret
  exact ⟨ret_u32 (rot_shape x 17 15 _ _ (by decide) (by decide) (by decide) (by decide) (by decide)), rfl⟩
theorem right_17 (x : UInt32) (w : World) : Calls Tryd.prog 52 #[.int .u32 (Mur.w32 x), .int .i64 17] w fun e w' => e = .returned (.int .u32 (Mur.w32 (Mur.rotr x 17))) ∧ w = w' := by
  go_enter Tryd.func52, Tryd.ntmps52
  go_wp2_with (go_at_call 55; refine (rotl_17 _ _).mono ?_; rintro e w' ⟨rfl, rfl⟩)
  go_ret
  exact ⟨rfl, rfl⟩
theorem turn_17 (x : UInt32) (w : World) : Calls Tryd.prog 54 #[.int .u32 (Mur.w32 x), .int .u64 17] w fun e w' => e = .returned (.int .u32 (Mur.w32 (Mur.rotr x 17))) ∧ w = w' := by
  go_enter Tryd.func54, Tryd.ntmps54
  go_wp2
  go_ret
  exact ⟨ret_u32 (rot_shape' x 17 15 _ _ (by decide) (by decide) (by decide) (by decide) (by decide)), rfl⟩
theorem rotl_18 (x : UInt32) (w : World) : Calls Tryd.prog 55 #[.int .u32 (Mur.w32 x), .int .i64 (-18)] w fun e w' => e = .returned (.int .u32 (Mur.w32 (Mur.rotr x 18))) ∧ w = w' := by
  have he : bits BinOp.and IntKind.u64 (IntKind.u64.wrap (-18)) 31 = 14 := by decide
  go_enter Tryd.func55, Tryd.ntmps55
  go_wp2
  go_ret
  exact ⟨ret_u32 (rot_shape x 18 14 _ _ (by decide) (by decide) (by decide) (by decide) (by decide)), rfl⟩
theorem right_18 (x : UInt32) (w : World) : Calls Tryd.prog 52 #[.int .u32 (Mur.w32 x), .int .i64 18] w fun e w' => e = .returned (.int .u32 (Mur.w32 (Mur.rotr x 18))) ∧ w = w' := by
  go_enter Tryd.func52, Tryd.ntmps52
  go_wp2_with (go_at_call 55; refine (rotl_18 _ _).mono ?_; rintro e w' ⟨rfl, rfl⟩)
  go_ret
  exact ⟨rfl, rfl⟩
theorem turn_18 (x : UInt32) (w : World) : Calls Tryd.prog 54 #[.int .u32 (Mur.w32 x), .int .u64 18] w fun e w' => e = .returned (.int .u32 (Mur.w32 (Mur.rotr x 18))) ∧ w = w' := by
  go_enter Tryd.func54, Tryd.ntmps54
  go_wp2
  go_ret
  exact ⟨ret_u32 (rot_shape' x 18 14 _ _ (by decide) (by decide) (by decide) (by decide) (by decide)), rfl⟩
theorem rotl_19 (x : UInt32) (w : World) : Calls Tryd.prog 55 #[.int .u32 (Mur.w32 x), .int .i64 (-19)] w fun e w' => e = .returned (.int .u32 (Mur.w32 (Mur.rotr x 19))) ∧ w = w' := by
  have he : bits BinOp.and IntKind.u64 (IntKind.u64.wrap (-19)) 31 = 13 := by decide
  go_enter Tryd.func55, Tryd.ntmps55
  go_wp2
  go_ret
  exact ⟨ret_u32 (rot_shape x 19 13 _ _ (by decide) (by decide) (by decide) (by decide) (by decide)), rfl⟩
theorem right_19 (x : UInt32) (w : World) : Calls Tryd.prog 52 #[.int .u32 (Mur.w32 x), .int .i64 19] w fun e w' => e = .returned (.int .u32 (Mur.w32 (Mur.rotr x 19))) ∧ w = w' := by
  go_enter Tryd.func52, Tryd.ntmps52
  go_wp2_with (go_at_call 55; refine (rotl_19 _ _).mono ?_; rintro e w' ⟨rfl, rfl⟩)
  go_ret
  exact ⟨rfl, rfl⟩
theorem turn_19 (x : UInt32) (w : World) : Calls Tryd.prog 54 #[.int .u32 (Mur.w32 x), .int .u64 19] w fun e w' => e = .returned (.int .u32 (Mur.w32 (Mur.rotr x 19))) ∧ w = w' := by
  go_enter Tryd.func54, Tryd.ntmps54
  go_wp2
  go_ret
  exact ⟨ret_u32 (rot_shape' x 19 13 _ _ (by decide) (by decide) (by decide) (by decide) (by decide)), rfl⟩
theorem rotl_22 (x : UInt32) (w : World) : Calls Tryd.prog 55 #[.int .u32 (Mur.w32 x), .int .i64 (-22)] w fun e w' => e = .returned (.int .u32 (Mur.w32 (Mur.rotr x 22))) ∧ w = w' := by
  have he : bits BinOp.and IntKind.u64 (IntKind.u64.wrap (-22)) 31 = 10 := by decide
  go_enter Tryd.func55, Tryd.ntmps55
  go_wp2
  go_ret
  exact ⟨ret_u32 (rot_shape x 22 10 _ _ (by decide) (by decide) (by decide) (by decide) (by decide)), rfl⟩
theorem right_22 (x : UInt32) (w : World) : Calls Tryd.prog 52 #[.int .u32 (Mur.w32 x), .int .i64 22] w fun e w' => e = .returned (.int .u32 (Mur.w32 (Mur.rotr x 22))) ∧ w = w' := by
  go_enter Tryd.func52, Tryd.ntmps52
  go_wp2_with (go_at_call 55; refine (rotl_22 _ _).mono ?_; rintro e w' ⟨rfl, rfl⟩)
  go_ret
  exact ⟨rfl, rfl⟩
theorem turn_22 (x : UInt32) (w : World) : Calls Tryd.prog 54 #[.int .u32 (Mur.w32 x), .int .u64 22] w fun e w' => e = .returned (.int .u32 (Mur.w32 (Mur.rotr x 22))) ∧ w = w' := by
  go_enter Tryd.func54, Tryd.ntmps54
  go_wp2
  go_ret
  exact ⟨ret_u32 (rot_shape' x 22 10 _ _ (by decide) (by decide) (by decide) (by decide) (by decide)), rfl⟩
theorem rotl_25 (x : UInt32) (w : World) : Calls Tryd.prog 55 #[.int .u32 (Mur.w32 x), .int .i64 (-25)] w fun e w' => e = .returned (.int .u32 (Mur.w32 (Mur.rotr x 25))) ∧ w = w' := by
  have he : bits BinOp.and IntKind.u64 (IntKind.u64.wrap (-25)) 31 = 7 := by decide
  go_enter Tryd.func55, Tryd.ntmps55
  go_wp2
  go_ret
  exact ⟨ret_u32 (rot_shape x 25 7 _ _ (by decide) (by decide) (by decide) (by decide) (by decide)), rfl⟩
theorem right_25 (x : UInt32) (w : World) : Calls Tryd.prog 52 #[.int .u32 (Mur.w32 x), .int .i64 25] w fun e w' => e = .returned (.int .u32 (Mur.w32 (Mur.rotr x 25))) ∧ w = w' := by
  go_enter Tryd.func52, Tryd.ntmps52
  go_wp2_with (go_at_call 55; refine (rotl_25 _ _).mono ?_; rintro e w' ⟨rfl, rfl⟩)
  go_ret
  exact ⟨rfl, rfl⟩
theorem turn_25 (x : UInt32) (w : World) : Calls Tryd.prog 54 #[.int .u32 (Mur.w32 x), .int .u64 25] w fun e w' => e = .returned (.int .u32 (Mur.w32 (Mur.rotr x 25))) ∧ w = w' := by
  go_enter Tryd.func54, Tryd.ntmps54
  go_wp2
  go_ret
  exact ⟨ret_u32 (rot_shape' x 25 7 _ _ (by decide) (by decide) (by decide) (by decide) (by decide)), rfl⟩
def turnsB (n : Int) : Bool := [2, 6, 7, 11, 13, 17, 18, 19, 22, 25].contains n
theorem turnsB_cases {n : Int} (h : turnsB n = true) : n = 2 ∨ n = 6 ∨ n = 7 ∨ n = 11 ∨ n = 13 ∨ n = 17 ∨ n = 18 ∨ n = 19 ∨ n = 22 ∨ n = 25 := by
  simpa [turnsB] using h
theorem right_any (x : UInt32) (n : Int) (h : turnsB n = true) (w : World) : Calls Tryd.prog 52 #[.int .u32 (Mur.w32 x), .int .i64 n] w fun e w' => e = .returned (.int .u32 (Mur.w32 (Mur.rotr x (UInt32.ofNat n.toNat)))) ∧ w = w' := by
  rcases turnsB_cases h with rfl | rfl | rfl | rfl | rfl | rfl | rfl | rfl | rfl | rfl
  · exact right_2 x w
  · exact right_6 x w
  · exact right_7 x w
  · exact right_11 x w
  · exact right_13 x w
  · exact right_17 x w
  · exact right_18 x w
  · exact right_19 x w
  · exact right_22 x w
  · exact right_25 x w
theorem turn_any (x : UInt32) (n : Int) (h : turnsB n = true) (w : World) : Calls Tryd.prog 54 #[.int .u32 (Mur.w32 x), .int .u64 n] w fun e w' => e = .returned (.int .u32 (Mur.w32 (Mur.rotr x (UInt32.ofNat n.toNat)))) ∧ w = w' := by
  rcases turnsB_cases h with rfl | rfl | rfl | rfl | rfl | rfl | rfl | rfl | rfl | rfl
  · exact turn_2 x w
  · exact turn_6 x w
  · exact turn_7 x w
  · exact turn_11 x w
  · exact turn_13 x w
  · exact turn_17 x w
  · exact turn_18 x w
  · exact turn_19 x w
  · exact turn_22 x w
  · exact turn_25 x w
end Go.Proofs.YtljfjjofhclhiaaDoor
