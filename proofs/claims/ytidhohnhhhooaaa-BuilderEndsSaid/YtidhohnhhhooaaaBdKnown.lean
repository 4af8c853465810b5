/- The builder's known answers, walked. -/
import Derived.Test.YtidhohnhhhooaaaBdStepO
namespace Go.Proofs.Ytidhohnhhhooaaa
open Go.RowKit
open Mur (Trn Fct Upd)
set_option maxRecDepth 100000
set_option maxHeartbeats 4000000
theorem known_any (w : World) : Calls Try.prog 8 #[] w fun e w' => e = .returned (.bool true) ∧ Below w.heap.size w w' := by
  go_enter Try.func8, Try.ntmps8
  go_wp2_with fail
  refine (New_yes 9 4 w (by omega) (by omega) (by omega) (by omega)).mono ?_
  rintro e w1 ⟨rfl, hw1⟩
  have hu := Upd.refl (g := w.heap.size) (T := 41) (cs := (Trn.new 9 4).cells) (w := w1) (by rw [hw1]; exact heap_alloc_new _ _)
  have hB : Below w.heap.size w w1 := by rw [hw1]; exact (Below.refl _ _).alloc (Nat.le_refl _) _
  have hsz : w.heap.size ≤ w1.heap.size := hB.size
  have hlt : w.heap.size < w1.heap.size := by rw [hw1]; simp
  have HB := Go.Lib.hid hB; clear hB hw1
  have HU0 := Go.Lib.hid hu; clear hu
  go_wp2_with fail
  have hs : Trn.Step (Trn.new 9 4) 0 ⟨false, false, false, false, false, false, false, false⟩ = (⟨9, 4, 1, true, 0, false, 0, 1⟩, 1) := by kernel_rfl
  have hc := Step_any (Trn.new 9 4) 0 ⟨false, false, false, false, false, false, false, false⟩ w.heap.size w1 HU0.out.self ⟨by decide, by decide, by decide, by decide⟩ (by decide)
  rw [hs] at hc
  clear hs
  refine hc.mono ?_
  clear hc
  rintro e w2 ⟨rfl, hu⟩
  have HU1 := Go.Lib.hid (HU0.out.trans hu); clear hu
  go_wp2_with fail
  have hs : Trn.Step ⟨9, 4, 1, true, 0, false, 0, 1⟩ 3 ⟨false, true, false, false, false, false, false, false⟩ = (⟨9, 4, 2, true, 0, false, 3, 2⟩, 2) := by kernel_rfl
  have hc := Step_any ⟨9, 4, 1, true, 0, false, 0, 1⟩ 3 ⟨false, true, false, false, false, false, false, false⟩ w.heap.size w2 HU1.out.self ⟨by decide, by decide, by decide, by decide⟩ (by decide)
  rw [hs] at hc
  clear hs
  refine hc.mono ?_
  clear hc
  rintro e w3 ⟨rfl, hu⟩
  have HU2 := Go.Lib.hid (HU1.out.trans hu); clear hu
  go_wp2_with fail
  have hs : Trn.Step ⟨9, 4, 2, true, 0, false, 3, 2⟩ 7 ⟨false, true, false, false, false, false, false, false⟩ = (⟨9, 4, 1, true, 0, true, 3, 1⟩, 1) := by kernel_rfl
  have hc := Step_any ⟨9, 4, 2, true, 0, false, 3, 2⟩ 7 ⟨false, true, false, false, false, false, false, false⟩ w.heap.size w3 HU2.out.self ⟨by decide, by decide, by decide, by decide⟩ (by decide)
  rw [hs] at hc
  clear hs
  refine hc.mono ?_
  clear hc
  rintro e w4 ⟨rfl, hu⟩
  have HU3 := Go.Lib.hid (HU2.out.trans hu); clear hu
  go_wp2_with fail
  have hs : Trn.Step ⟨9, 4, 1, true, 0, true, 3, 1⟩ 9 ⟨false, true, false, false, false, false, false, false⟩ = (⟨9, 4, 3, true, 0, true, 3, 3⟩, 3) := by kernel_rfl
  have hc := Step_any ⟨9, 4, 1, true, 0, true, 3, 1⟩ 9 ⟨false, true, false, false, false, false, false, false⟩ w.heap.size w4 HU3.out.self ⟨by decide, by decide, by decide, by decide⟩ (by decide)
  rw [hs] at hc
  clear hs
  refine hc.mono ?_
  clear hc
  rintro e w5 ⟨rfl, hu⟩
  have HU4 := Go.Lib.hid (HU3.out.trans hu); clear hu
  go_wp2_with fail
  refine (Over_any ⟨9, 4, 3, true, 0, true, 3, 3⟩ w.heap.size _ HU4.out.self).mono ?_
  rintro e w0 ⟨rfl, rfl⟩
  rw [show ((Trn.state ⟨9, 4, 3, true, 0, true, 3, 3⟩ == 4) : Bool) = false from rfl]
  go_wp2_with fail
  have hs : Trn.Step ⟨9, 4, 3, true, 0, true, 3, 3⟩ 10 ⟨false, false, false, false, false, false, true, false⟩ = (⟨9, 4, 4, true, 0, true, 3, 4⟩, 4) := by kernel_rfl
  have hc := Step_any ⟨9, 4, 3, true, 0, true, 3, 3⟩ 10 ⟨false, false, false, false, false, false, true, false⟩ w.heap.size w5 HU4.out.self ⟨by decide, by decide, by decide, by decide⟩ (by decide)
  rw [hs] at hc
  clear hs
  refine hc.mono ?_
  clear hc
  rintro e w6 ⟨rfl, hu⟩
  have HU5 := Go.Lib.hid (HU4.out.trans hu); clear hu
  go_wp2_with fail
  refine (Over_any ⟨9, 4, 4, true, 0, true, 3, 4⟩ w.heap.size _ HU5.out.self).mono ?_
  rintro e w0 ⟨rfl, rfl⟩
  rw [show ((Trn.state ⟨9, 4, 4, true, 0, true, 3, 4⟩ == 4) : Bool) = true from rfl]
  go_wp2
  go_ret
  exact ⟨rfl, HB.out.trans (HU5.out.below (Nat.le_refl _) hsz)⟩
end Go.Proofs.Ytidhohnhhhooaaa
