/- known, walked: it answers true. -/
import Derived.Test.YtidhohnhhhooaaaDoorRsum
import Derived.Test.YtidhohnhhhooaaaDoorWords
import Derived.Test.YtidhohnhhhooaaaDoorHeld
import Derived.Lib.SlBytesConst
namespace Go.Proofs.YtidhohnhhhooaaaDoor
open Go.RowKit
open Mur (St w32 u32s cell_u32s free_row set_u32s b8s dgV Byt cutA)
theorem digT : Mur.DigT Tryd.prog 30 5 := ⟨Tryd.underlying30, Tryd.underlying5, by kernel_rfl, by kernel_rfl, by kernel_rfl, by kernel_rfl⟩
theorem none_cells : (b8s (Mur.sha [])).toArray = #[.int .u8 227, .int .u8 176, .int .u8 196, .int .u8 66, .int .u8 152, .int .u8 252, .int .u8 28, .int .u8 20, .int .u8 154, .int .u8 251, .int .u8 244, .int .u8 200, .int .u8 153, .int .u8 111, .int .u8 185, .int .u8 36, .int .u8 39, .int .u8 174, .int .u8 65, .int .u8 228, .int .u8 100, .int .u8 155, .int .u8 147, .int .u8 76, .int .u8 164, .int .u8 149, .int .u8 153, .int .u8 27, .int .u8 120, .int .u8 82, .int .u8 184, .int .u8 85] := by rw [Mur.sha_none]; rfl
theorem abc_cells : (b8s (Mur.sha [97, 98, 99])).toArray = #[.int .u8 186, .int .u8 120, .int .u8 22, .int .u8 191, .int .u8 143, .int .u8 1, .int .u8 207, .int .u8 234, .int .u8 65, .int .u8 65, .int .u8 64, .int .u8 222, .int .u8 93, .int .u8 174, .int .u8 34, .int .u8 35, .int .u8 176, .int .u8 3, .int .u8 97, .int .u8 163, .int .u8 150, .int .u8 23, .int .u8 122, .int .u8 156, .int .u8 180, .int .u8 16, .int .u8 255, .int .u8 97, .int .u8 242, .int .u8 0, .int .u8 21, .int .u8 173] := by rw [Mur.sha_abc]; rfl
theorem abc_byt (w : World) (t : TypeId) (fr : Nat × Nat) : Byt (w.alloc (.cells #[.int .u8 97, .int .u8 98, .int .u8 99] t fr)) (some ⟨w.heap.size, 0, none⟩) 3 [97, 98, 99] := by
  refine ⟨rfl, fun _ => ⟨_, 0, rfl, fun j hj => ?_⟩⟩
  rw [cell_of_row _ _ _ _ _ _ (Mur.hp_a1 _ _)]
  obtain rfl | rfl | rfl : j = 0 ∨ j = 1 ∨ j = 2 := by omega
  all_goals rfl
set_option maxRecDepth 100000
set_option maxHeartbeats 400000
theorem known_any (w : World) (hv : ShaVars w) : Calls Tryd.prog 6 #[] w fun e w' => e = .returned (.bool true) ∧ Below w.heap.size w w' := by
  have HV := Go.Lib.hid hv; clear hv
  obtain ⟨n0, hn0⟩ : ∃ d, Hid (d = Mur.sha []) := ⟨_, rfl⟩
  obtain ⟨a0, ha0⟩ : ∃ d, Hid (d = Mur.sha [97, 98, 99]) := ⟨_, rfl⟩
  have HN : Hid ((b8s n0).toArray = #[.int .u8 227, .int .u8 176, .int .u8 196, .int .u8 66, .int .u8 152, .int .u8 252, .int .u8 28, .int .u8 20, .int .u8 154, .int .u8 251, .int .u8 244, .int .u8 200, .int .u8 153, .int .u8 111, .int .u8 185, .int .u8 36, .int .u8 39, .int .u8 174, .int .u8 65, .int .u8 228, .int .u8 100, .int .u8 155, .int .u8 147, .int .u8 76, .int .u8 164, .int .u8 149, .int .u8 153, .int .u8 27, .int .u8 120, .int .u8 82, .int .u8 184, .int .u8 85]) := Go.Lib.hid (by rw [hn0.out]; exact none_cells)
  have HA : Hid ((b8s a0).toArray = #[.int .u8 186, .int .u8 120, .int .u8 22, .int .u8 191, .int .u8 143, .int .u8 1, .int .u8 207, .int .u8 234, .int .u8 65, .int .u8 65, .int .u8 64, .int .u8 222, .int .u8 93, .int .u8 174, .int .u8 34, .int .u8 35, .int .u8 176, .int .u8 3, .int .u8 97, .int .u8 163, .int .u8 150, .int .u8 23, .int .u8 122, .int .u8 156, .int .u8 180, .int .u8 16, .int .u8 255, .int .u8 97, .int .u8 242, .int .u8 0, .int .u8 21, .int .u8 173]) := Go.Lib.hid (by rw [ha0.out]; exact abc_cells)
  have hnl : n0.length = 32 := by rw [hn0.out]; exact sha_length _
  have hal : a0.length = 32 := by rw [ha0.out]; exact sha_length _
  have HNL := Go.Lib.hid hnl; clear hnl
  have HAL := Go.Lib.hid hal; clear hal
  go_enter Tryd.func6, Tryd.ntmps6
  go_wp2_with (first
    | (refine Mur.wpList_put rfl 30 (.tmp 1) (.tmp 3) rfl w.heap.size (b8s n0).toArray rfl (by rw [HN.out]; rfl) 30 (b8s (List.replicate 32 0)).toArray ((Mur.hp_a1 _ _).trans rfl) (by rw [HN.out]; kernel_rfl) (by rw [HN.out]; rfl) (Mur.b8s_all _) ?_; intro w1 hp1 hw1; have hp1' := Go.Lib.hid hp1; clear hp1)
    | (refine Mur.wpList_put rfl 30 (.tmp 2) (.tmp 4) rfl w1.heap.size (b8s a0).toArray rfl (by rw [HA.out]; rfl) 30 (b8s (List.replicate 32 0)).toArray ((Mur.hp_a1 _ _).trans rfl) (by rw [HA.out]; kernel_rfl) (by rw [HA.out]; rfl) (Mur.b8s_all _) ?_; intro w2 hp2 hw2; have hp2' := Go.Lib.hid hp2; clear hp2))
  have hb1 : Below w.heap.size w w1 := ((Below.refl _ _).alloc (Nat.le_refl _) _).trans (hw1.below (Nat.le_refl _))
  have hs1 : w1.heap.size = w.heap.size + 1 := by rw [hw1.size]; simp
  have hb2 : Below w.heap.size w w2 := (hb1.alloc (by omega) _).trans (hw2.below (by omega))
  have hs2 : w2.heap.size = w.heap.size + 2 := by rw [hw2.size]; simp; omega
  have hp3 : w2.heap[w.heap.size]? = some (.cells (b8s n0).toArray 30 (0, 0)) := hw2.hp (by omega) (Mur.hp_old hp1'.out _)
  have HZN : Hid ((b8s n0).toArray.size = 32) := Go.Lib.hid (dgV_size HNL.out)
  have HZA : Hid ((b8s a0).toArray.size = 32) := Go.Lib.hid (dgV_size HAL.out)
  refine wp_region_held (S := fun w' => Below w.heap.size w w' ∧ w2.heap.size ≤ w'.heap.size ∧ w'.heap[w.heap.size]? = some (.cells (b8s n0).toArray 30 (0, 0)) ∧ w'.heap[w1.heap.size]? = some (.cells (b8s a0).toArray 30 (0, 0))) (by kernel_rfl) ?_
  have hS : Below w.heap.size w w2.drew ∧ w2.heap.size ≤ w2.drew.heap.size ∧ w2.drew.heap[w.heap.size]? = some (.cells (b8s n0).toArray 30 (0, 0)) ∧ w2.drew.heap[w1.heap.size]? = some (.cells (b8s a0).toArray 30 (0, 0)) := ⟨Mur.below_drewN hb2 1, Nat.le_refl _, hp3, hp2'.out⟩
  refine Mur.hTake 1 (.agg (b8s n0).toArray) rfl (by kernel_rfl) (by kernel_rfl) (by kernel_rfl) (fun _ _ _ h => h) (by kernel_rfl) (fun w' hw' => Mur.run_op_row 30 (.tmp 1) rfl w.heap.size rfl 30 _ (0, 0) _ hw'.2.2.1 Tryd.underlying30 rfl (by rw [HZN.out]; kernel_rfl)) hS ?_
  refine Mur.hCall 0 8 [.const (.slice none 0 0)] #[22] [.slice none 0 0] (by kernel_rfl) rfl rfl rfl rfl (by kernel_rfl) ?_
  refine (Sum_var [] none 0 0 _ (HV.out.below hS.1) (Mur.Byt.nil _ _) (Nat.le_refl _) (fun _ => rfl) (by omega)).mono ?_
  rintro e w3 ⟨d, hd, hdl, rfl, hB3⟩
  refine ⟨_, rfl, ⟨hS.1.trans (hB3.mono (by omega)), hB3.size, ?_, ?_⟩, ?_⟩
  · exact (hB3.block _ (by omega)).trans hS.2.2.1
  · exact (hB3.block _ (by omega)).trans hS.2.2.2
  · have hS3 : Below w.heap.size w w3 ∧ w2.heap.size ≤ w3.heap.size ∧ w3.heap[w.heap.size]? = some (.cells (b8s n0).toArray 30 (0, 0)) ∧ w3.heap[w1.heap.size]? = some (.cells (b8s a0).toArray 30 (0, 0)) := ⟨hS.1.trans (hB3.mono (by omega)), hB3.size, (hB3.block _ (by omega)).trans hS.2.2.1, (hB3.block _ (by omega)).trans hS.2.2.2⟩
    clear hS hp3
    have hdn : d = n0 := hd.out.trans hn0.out.symm
    refine Mur.hTake 2 (.bool true) rfl (by kernel_rfl) (by kernel_rfl) (by kernel_rfl) (fun _ _ _ h => h) (by kernel_rfl) (fun w' _ => Mur.run_eql_true digT d n0 hdl hdn w' (.tmp 5) (.tmp 6) 30 rfl (by kernel_rfl) (by kernel_rfl)) hS3 ?_
    refine Mur.hTake 3 (.bool true) rfl (by kernel_rfl) (by kernel_rfl) (by kernel_rfl) (fun _ _ _ h => h) (by kernel_rfl) (fun _ _ => by kernel_rfl) hS3 ?_
    refine Mur.hTake 7 (.agg (b8s a0).toArray) rfl (by kernel_rfl) (by kernel_rfl) (by kernel_rfl) (fun _ _ _ h => h) (by kernel_rfl) (fun w' hw' => Mur.run_op_row 30 (.tmp 2) rfl w1.heap.size (by kernel_rfl) 30 _ (0, 0) _ hw'.2.2.2 Tryd.underlying30 rfl (by rw [HZA.out]; kernel_rfl)) hS3 ?_
    have hS4 : Below w.heap.size w (w3.alloc (.cells #[.int .u8 97, .int .u8 98, .int .u8 99] 5)) ∧ w2.heap.size ≤ (w3.alloc (.cells #[.int .u8 97, .int .u8 98, .int .u8 99] 5)).heap.size ∧ (w3.alloc (.cells #[.int .u8 97, .int .u8 98, .int .u8 99] 5)).heap[w.heap.size]? = some (.cells (b8s n0).toArray 30 (0, 0)) ∧ (w3.alloc (.cells #[.int .u8 97, .int .u8 98, .int .u8 99] 5)).heap[w1.heap.size]? = some (.cells (b8s a0).toArray 30 (0, 0)) :=
      ⟨hS3.1.alloc hS3.1.size _, by have := hS3.2.1; simp; omega, Mur.hp_old hS3.2.2.1 _, Mur.hp_old hS3.2.2.2 _⟩
    refine Mur.hOne 4 (.slice (some ⟨w3.heap.size, 0, none⟩) 3 3) (w3.alloc (.cells #[.int .u8 97, .int .u8 98, .int .u8 99] 5)) (by kernel_rfl) rfl rfl (by kernel_rfl) hS4 ?_
    have hS6 : Below w.heap.size w (w3.alloc (.cells #[.int .u8 97, .int .u8 98, .int .u8 99] 5 (3, 4))) ∧ w2.heap.size ≤ (w3.alloc (.cells #[.int .u8 97, .int .u8 98, .int .u8 99] 5 (3, 4))).heap.size ∧ (w3.alloc (.cells #[.int .u8 97, .int .u8 98, .int .u8 99] 5 (3, 4))).heap[w.heap.size]? = some (.cells (b8s n0).toArray 30 (0, 0)) ∧ (w3.alloc (.cells #[.int .u8 97, .int .u8 98, .int .u8 99] 5 (3, 4))).heap[w1.heap.size]? = some (.cells (b8s a0).toArray 30 (0, 0)) :=
      ⟨hS3.1.alloc hS3.1.size _, by have := hS3.2.1; simp; omega, Mur.hp_old hS3.2.2.1 _, Mur.hp_old hS3.2.2.2 _⟩
    refine Mur.hOne 5 (.slice (some ⟨w3.heap.size, 0, none⟩) 3 3) (w3.alloc (.cells #[.int .u8 97, .int .u8 98, .int .u8 99] 5 (3, 4))) (by kernel_rfl) rfl (by kernel_rfl) (Mur.run_op_convert 22 22 (.tmp 9) (.slice (some ⟨w3.heap.size, 0, none⟩) 3 3) _ rfl (by kernel_rfl) (Lib.run_convert_bytes_const w3 22 5 #[.int .u8 97, .int .u8 98, .int .u8 99] 3 3 Tryd.underlying22 Tryd.underlying5)) hS6 ?_
    refine Mur.hCall 6 8 [.tmp 10] #[22] [.slice (some ⟨w3.heap.size, 0, none⟩) 3 3] (by kernel_rfl) rfl (by kernel_rfl) rfl (by kernel_rfl) (by kernel_rfl) ?_
    refine (Sum_var [97, 98, 99] (some ⟨w3.heap.size, 0, none⟩) 3 3 _ (HV.out.below hS6.1) (abc_byt w3 _ _) (Nat.le_refl _) (fun h => by cases h) (by omega)).mono ?_
    rintro e w5 ⟨d5, hd5, hdl5, rfl, hB5⟩
    have hS5 : Below w.heap.size w w5 ∧ w2.heap.size ≤ w5.heap.size ∧ w5.heap[w.heap.size]? = some (.cells (b8s n0).toArray 30 (0, 0)) ∧ w5.heap[w1.heap.size]? = some (.cells (b8s a0).toArray 30 (0, 0)) :=
      ⟨Mur.below_then hS6.1 hS6.1.size hB5, Nat.le_trans hS6.2.1 hB5.size, Mur.hp_below hB5 hS6.2.2.1, Mur.hp_below hB5 hS6.2.2.2⟩
    clear hS3 hS4 hS6
    refine ⟨_, rfl, hS5, ?_⟩
    have hda : d5 = a0 := hd5.out.trans ha0.out.symm
    refine Mur.hTake 8 (.bool true) rfl (by kernel_rfl) (by kernel_rfl) (by kernel_rfl) (fun _ _ _ h => h) (by kernel_rfl) (fun w' _ => Mur.run_eql_true digT d5 a0 hdl5 hda w' (.tmp 11) (.tmp 12) 30 rfl (by kernel_rfl) (by kernel_rfl)) hS5 ?_
    refine Mur.hTake 9 (.bool true) rfl (by kernel_rfl) (by kernel_rfl) (by kernel_rfl) (fun _ _ _ h => h) (by kernel_rfl) (fun _ _ => by kernel_rfl) hS5 ?_
    refine Mur.hTake 10 (.bool true) rfl (by kernel_rfl) (by kernel_rfl) (by kernel_rfl) (fun _ _ _ h => h) (by kernel_rfl) (fun _ _ => by kernel_rfl) hS5 ?_
    refine wpAnyH_done (by kernel_rfl) ?_ _
    simp only [Act.put, List.getElem_toArray, List.getElem_cons_succ, List.getElem_cons_zero, List.setIfInBounds_toArray, List.set_cons_succ, List.set_cons_zero]
    go_wp2
    exact bodyPost_ret (v := .bool true) (by kernel_rfl) rfl ⟨rfl, hS5.1⟩
end Go.Proofs.YtidhohnhhhooaaaDoor
