/- The builder's functions, walked. -/
import Derived.Test.YtidhohnhhhooaaaProg
import Derived.Test.YtidhohnhhhooaaaBdPure
import Derived.WalkKit
import Derived.WalkLawsBesides
import Derived.WalkSpells
import Derived.Lib.Hide
import Derived.Deep.QuietTactic
import Derived.BigQuiet
namespace Go.Proofs.Ytidhohnhhhooaaa
open Go.RowKit
open Mur (Trn Fct Upd)
theorem New_yes (most budget : Int) (w : World) (h1 : 0 ≤ most) (h2 : most ≤ 1000000) (h3 : 0 ≤ budget) (h4 : budget ≤ 1000000) :
    Calls Try.prog 7 #[.int .i64 most, .int .i64 budget] w fun e w' => e = .returned (.pointer (some ⟨w.heap.size, 0, none⟩)) ∧ w' = w.alloc (.cells (Trn.new most budget).cells 41) := by
  have e1 : decide (most < 0) = false := by simpa using h1
  have e2 : decide (1000000 < most) = false := by simpa using h2
  have e3 : decide (budget < 0) = false := by simpa using h3
  have e4 : decide (1000000 < budget) = false := by simpa using h4
  go_enter Try.func7, Try.ntmps7
  go_wp2
  go_ret
  exact ⟨rfl, rfl⟩
theorem New_no (most budget : Int) (w : World) (h : most < 0 ∨ 1000000 < most ∨ budget < 0 ∨ 1000000 < budget) :
    Calls Try.prog 7 #[.int .i64 most, .int .i64 budget] w fun e w' => e = .returned (.pointer none) ∧ w = w' := by
  by_cases h1 : most < 0
  · go_enter Try.func7, Try.ntmps7
    go_wp2
    go_ret
    exact ⟨rfl, rfl⟩
  · by_cases h2 : 1000000 < most
    · go_enter Try.func7, Try.ntmps7
      go_wp2
      go_ret
      exact ⟨rfl, rfl⟩
    · by_cases h3 : budget < 0
      · go_enter Try.func7, Try.ntmps7
        go_wp2
        go_ret
        exact ⟨rfl, rfl⟩
      · have h4 : 1000000 < budget := by omega
        clear h
        go_enter Try.func7, Try.ntmps7
        go_wp2
        go_ret
        exact ⟨rfl, rfl⟩
theorem Over_nil (w : World) : Calls Try.prog 11 #[.pointer none] w fun e w' => e = .returned (.bool false) ∧ w = w' := by
  go_enter Try.func11, Try.ntmps11
  go_wp2
  go_ret
  exact ⟨rfl, rfl⟩
theorem Over_any (t : Trn) (g : Nat) (w : World) (hg : w.heap[g]? = some (.cells t.cells 41 (0, 0))) :
    Calls Try.prog 11 #[.pointer (some ⟨g, 0, none⟩)] w fun e w' => e = .returned (.bool (t.state == 4)) ∧ w = w' := by
  have c2 : w.cell? ⟨g, 2, none⟩ = some (.int .i64 t.state) := cell_of_row w g 2 _ _ _ hg
  clear hg
  go_enter Try.func11, Try.ntmps11
  go_wp2
  go_ret
  exact ⟨rfl, rfl⟩
theorem end_any (t : Trn) (x : Int) (g : Nat) (w : World) (hg : w.heap[g]? = some (.cells t.cells 41 (0, 0))) :
    Calls Try.prog 13 #[.pointer (some ⟨g, 0, none⟩), .int .u8 x] w fun e w' => e = .returned (.int .u8 x) ∧ w' = w.setCell ⟨g, 2, none⟩ (.int .i64 4) := by
  have c2 : w.cell? ⟨g, 2, none⟩ = some (.int .i64 t.state) := cell_of_row w g 2 _ _ _ hg
  have z2 : w.frozen? ⟨g, 2, none⟩ = false := frozen_of_row w g 2 _ _ hg
  clear hg
  go_enter Try.func13, Try.ntmps13
  go_wp2
  go_ret
  exact ⟨rfl, rfl⟩
end Go.Proofs.Ytidhohnhhhooaaa
