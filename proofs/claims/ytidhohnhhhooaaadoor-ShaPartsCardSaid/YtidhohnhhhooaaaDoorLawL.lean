/- ShaLong, walked: it answers true. -/
import Derived.Test.YtidhohnhhhooaaaDoorLawS
import Derived.Laws.OwnMore
namespace Go.Proofs.YtidhohnhhhooaaaDoor
open Go.RowKit
open Mur (St w32 u32s cell_u32s free_row set_u32s b8s dgV Byt cutA)
def fillTo (x : UInt8) (k i : Nat) : List UInt8 := List.replicate i x ++ List.replicate (k - i) 0
theorem fillTo_length (x : UInt8) {k i : Nat} (h : i ≤ k) : (fillTo x k i).length = k := by simp [fillTo]; omega
theorem fillTo_succ (x : UInt8) {k i : Nat} (h : i < k) : fillTo x k (i + 1) = (fillTo x k i).set i x := by
  rw [fillTo, fillTo, List.set_append_right _ _ (by simp), List.length_replicate, Nat.sub_self, show k - i = (k - (i + 1)) + 1 by omega, List.replicate_succ' (n := i), List.append_assoc]
  rfl
theorem fillTo_zero (x : UInt8) (k : Nat) : fillTo x k 0 = List.replicate k 0 := by simp [fillTo]
theorem fillTo_all (x : UInt8) (k : Nat) : fillTo x k k = List.replicate k x := by simp [fillTo]
theorem made_zero (k : Nat) : madeCells #[.int .u8 0] k = (b8s (List.replicate k 0)).toArray := by
  apply Array.toList_inj.1
  rw [toList_madeCells_one]
  simp [b8s]
theorem run_mk (k : Nat) (hk : k ≤ 300) (w : World) : (Instr.makeSlice 22 (.int .i64 (k : Int)) (.int .i64 (k : Int))).run Tryd.prog w = .ok (.slice (some ⟨w.heap.size, 0, none⟩) k k) (w.alloc (.cells (b8s (List.replicate k 0)).toArray 5)) := by
  obtain ⟨i, hi, hs⟩ := Option.map_eq_some_iff.1 (show (Tryd.prog.info? 5).map (fun i => (i.zero, i.size, i.bytes)) = some (some (.int .u8 0), 1, 1) by kernel_rfl)
  simp only [Prod.mk.injEq] at hs
  have h := run_make (P := Tryd.prog) w 22 5 i (.int .u8 0) Tryd.underlying22 hi hs.1 .i64 .i64 k k (by omega) (by omega) (by rw [hs.2.2]; omega) (by omega)
  rw [hs.2.1, Int.toNat_natCast, Nat.mul_one] at h
  rw [← made_zero]
  exact h
theorem row_byt {w : World} {g t k : Nat} {fr : Nat × Nat} {l : List UInt8} (h : w.heap[g]? = some (.cells (b8s l).toArray t fr)) (hl : l.length = k) : Byt w (some ⟨g, 0, none⟩) k l :=
  ⟨hl, fun _ => ⟨g, 0, rfl, fun j hj => by rw [Nat.zero_add]; exact Mur.cell_b8s h (by omega)⟩⟩
set_option maxRecDepth 100000
set_option maxHeartbeats 1000000
theorem ShaLong_any (x : UInt8) (n : Int) (w : World) (hv : ShaVars w) (hn1 : IntKind.i64.min ≤ n) (hn2 : n ≤ IntKind.i64.max) :
    Calls Tryd.prog 4 #[.int .u8 (x.toNat : Int), .int .i64 n] w fun e w' => e = .returned (.bool true) ∧ Below w.heap.size w w' := by
  have HV := Go.Lib.hid hv; clear hv
  go_enter Tryd.func4, Tryd.ntmps4
  by_cases hneg : n < 0
  · go_wp2_with (go_at_call 6; refine (known_any w HV.out).mono ?_; rintro e w2 ⟨rfl, hB2⟩)
    exact bodyPost_ret (v := .bool true) (by kernel_rfl) rfl ⟨rfl, hB2⟩
  · by_cases hbig : 300 < n
    · go_wp2_with (go_at_call 6; refine (known_any w HV.out).mono ?_; rintro e w2 ⟨rfl, hB2⟩)
      exact bodyPost_ret (v := .bool true) (by kernel_rfl) rfl ⟨rfl, hB2⟩
    · obtain ⟨k, rfl⟩ : ∃ k : Nat, n = (k : Int) := ⟨n.toNat, by omega⟩
      clear hn1 hn2
      have hk : k ≤ 300 := by omega
      have hmk := run_mk k hk w
      go_wp2
      go_loopw [20] (fun t wr => ∃ i : Nat, i ≤ k ∧ t = .int .i64 i ∧ Below w.heap.size w wr ∧ wr.heap[w.heap.size]? = some (.cells (b8s (fillTo x k i)).toArray 5 (0, 0))) (fun t _ => k - (intOf t).toNat)
      case atStart => exact ⟨0, by omega, rfl, (Below.refl _ _).alloc (Nat.le_refl _) _, by rw [fillTo_zero]; exact Mur.hp_a1 _ _⟩
      case round =>
        obtain ⟨i, hi, rfl, HB, HP⟩ := hrel
        clear hmk
        by_cases hlt : i < k
        · have cd := Mur.cell_b8s (i := i) HP (by rw [fillTo_length x hi]; exact hlt)
          have fd := free_row (i := i) HP
          go_wp2
          refine ⟨⟨i + 1, by omega, by go_num, HB.setCell (by simp) _, ?_⟩, by simp [intOf]; omega⟩
          rw [fillTo_succ x hlt]
          exact Mur.set_b8s HP x
        · obtain rfl : i = k := by omega
          rw [fillTo_all] at HP
          have hyB : Byt wr (some ⟨w.heap.size, 0, none⟩) i (List.replicate i x) := row_byt HP List.length_replicate
          have HY := Go.Lib.hid hyB; clear hyB HP
          obtain ⟨b, hb⟩ : ∃ b, List.replicate i x = b := ⟨_, rfl⟩
          rw [hb] at HY
          clear hb
          have hz0 := HB.size
          obtain ⟨w1, rfl⟩ : ∃ w1 : World, w1 = wr := ⟨_, rfl⟩
          go_wp2_with (first
            | (go_at_call 7; refine (words_var w1).mono ?_; rintro e w2 ⟨hc, kc, Hh, Hk, rfl, hB2⟩; have hzh := Hh.out ▸ (show (stCells Mur.H0).size = 8 from rfl); have HZh := Go.Lib.hid hzh; clear hzh)
            | (refine Mur.wpList_put rfl 25 (.tmp 7) (.tmp 30) rfl w2.heap.size hc rfl rfl 25 (u32s (List.replicate 8 0)) (Mur.hp_old (Mur.hp_a1 _ _) _) (by rw [Hh.out]; kernel_rfl) (by rw [Hh.out]; rfl) (by rw [Hh.out]; exact stCells_all _) ?_; intro w3 hp3 hw3; have hp3' := Go.Lib.hid hp3; clear hp3)
            | (refine Mur.wpList_put rfl 26 (.tmp 8) (.tmp 31) rfl (w2.heap.size + 1) kc rfl rfl 26 (u32s (List.replicate 64 0)) (hw3.hp (by omega) (Mur.hp_a2 _ _ _)) (by rw [Hk.out]; kernel_rfl) (by rw [Hk.out]; rfl) (by rw [Hk.out]; exact Mur.oneCells _) ?_; intro w4 hp4 hw4; have hp4' := Go.Lib.hid hp4; clear hp4))
          have hs3 : w3.heap.size = w2.heap.size + 2 := by rw [hw3.size]; simp
          have hb4 : Below w2.heap.size w2 w4 := (((Below.refl _ _).alloc (Nat.le_refl _) _).alloc (by simp) _).trans ((hw3.below (Nat.le_refl _)).trans (hw4.below (by omega)))
          have hb1 : Below w.heap.size w w4 := HB.trans (Mur.below_then (hB2.mono HB.size) (Nat.le_trans HB.size hB2.size) hb4)
          have hq4 : w4.heap[w2.heap.size]? = some (.cells hc 25 (0, 0)) := hw4.hp (by omega) hp3'.out
          have HY4 : Hid (Byt w4 (some ⟨w.heap.size, 0, none⟩) i b) := Go.Lib.hid ((HY.out.below hB2).below hb4)
          have HZk : Hid (kc.size = 64) := Go.Lib.hid (by rw [Hk.out]; simp [u32s, Mur.K_length])
          have hb0 : w.heap.size ≤ w4.heap.size := hb1.size
          clear hw3 hw4 hp3' hB2 HB hb4
          refine wp_region_held (S := fun w' => Below w4.heap.size w4 w') (by kernel_rfl) ?_
          have hS : Below w4.heap.size w4 w4.drew := Mur.below_drewN (Below.refl _ _) 1
          refine Mur.hTake 0 (.slice (some ⟨w.heap.size, 0, none⟩) i i) rfl (by kernel_rfl) (by kernel_rfl) (by kernel_rfl) (fun _ _ _ h => h) (by kernel_rfl) (fun _ _ => by kernel_rfl) hS ?_
          refine Mur.hTake 2 (.agg hc) rfl (by kernel_rfl) (by kernel_rfl) (by kernel_rfl) (fun _ _ _ h => h) (by kernel_rfl) (fun w' hw' => Mur.run_op_row 25 (.tmp 7) rfl w2.heap.size (by kernel_rfl) 25 _ (0, 0) _ (Mur.hp_below hw' hq4) Tryd.underlying25 rfl (by rw [HZh.out]; kernel_rfl)) hS ?_
          refine Mur.hTake 3 (.agg kc) rfl (by kernel_rfl) (by kernel_rfl) (by kernel_rfl) (fun _ _ _ h => h) (by kernel_rfl) (fun w' hw' => Mur.run_op_row 26 (.tmp 8) rfl (w2.heap.size + 1) (by kernel_rfl) 26 _ (0, 0) _ (Mur.hp_below hw' hp4'.out) Tryd.underlying26 rfl (by rw [HZk.out]; kernel_rfl)) hS ?_
          refine Mur.hTake 4 (.slice (some ⟨w.heap.size, 0, none⟩) i i) rfl (by kernel_rfl) (by kernel_rfl) (by kernel_rfl) (fun _ _ _ h => h) (by kernel_rfl) (fun _ _ => by kernel_rfl) hS ?_
          refine Mur.hCall 1 8 [.tmp 32] #[22] [.slice (some ⟨w.heap.size, 0, none⟩) i i] (by kernel_rfl) rfl (by kernel_rfl) rfl (by kernel_rfl) (by kernel_rfl) ?_
          refine (Sum_var b (some ⟨w.heap.size, 0, none⟩) i i _ (HV.out.below (hb1.trans (hS.mono hb0))) (HY4.out.below hS) (Nat.le_refl _) (fun h => by cases h) (by omega)).mono ?_
          rintro e w5 ⟨d, hd, hdl, rfl, hB5⟩
          have hS5 : Below w4.heap.size w4 w5 := Mur.below_then hS hS.size hB5
          clear hB5 hS
          refine ⟨_, rfl, hS5, ?_⟩
          refine Mur.hCall 5 9 [.tmp 34, .tmp 35, .tmp 36] #[25, 26, 22] [.agg hc, .agg kc, .slice (some ⟨w.heap.size, 0, none⟩) i i] (by kernel_rfl) rfl (by kernel_rfl) rfl (by kernel_rfl) (by kernel_rfl) ?_
          refine (Rsum_var hc kc Hh Hk b (some ⟨w.heap.size, 0, none⟩) i i _ (HY4.out.below hS5) (Nat.le_refl _) (fun h => by cases h) (by omega)).mono ?_
          rintro e w6 ⟨d6, hd6, hdl6, rfl, hB6⟩
          have hS6 : Below w4.heap.size w4 w6 := Mur.below_then hS5 hS5.size hB6
          clear hB6 hS5
          have hde : d = d6 := hd.out.trans hd6.out.symm
          refine ⟨_, rfl, hS6, ?_⟩
          refine Mur.hTake 6 (.bool true) rfl (by kernel_rfl) (by kernel_rfl) (by kernel_rfl) (fun _ _ _ h => h) (by kernel_rfl) (fun w' _ => Mur.run_eql_true digT d d6 hdl hde w' (.tmp 33) (.tmp 37) 30 rfl (by kernel_rfl) (by kernel_rfl)) hS6 ?_
          refine Mur.hTake 7 (.bool true) rfl (by kernel_rfl) (by kernel_rfl) (by kernel_rfl) (fun _ _ _ h => h) (by kernel_rfl) (fun _ _ => by kernel_rfl) hS6 ?_
          refine Mur.hCall 8 6 [] #[] [] (by kernel_rfl) rfl (by kernel_rfl) rfl rfl (by kernel_rfl) ?_
          refine (known_any _ (HV.out.below (hb1.trans (hS6.mono hb0)))).mono ?_
          rintro e w7 ⟨rfl, hB7⟩
          have hS7 : Below w4.heap.size w4 w7 := Mur.below_then hS6 hS6.size hB7
          clear hB7 hS6
          refine ⟨_, rfl, hS7, ?_⟩
          refine Mur.hTake 9 (.bool true) rfl (by kernel_rfl) (by kernel_rfl) (by kernel_rfl) (fun _ _ _ h => h) (by kernel_rfl) (fun _ _ => by kernel_rfl) hS7 ?_
          refine Mur.hTake 10 (.bool true) rfl (by kernel_rfl) (by kernel_rfl) (by kernel_rfl) (fun _ _ _ h => h) (by kernel_rfl) (fun _ _ => by kernel_rfl) hS7 ?_
          refine wpAnyH_done (by kernel_rfl) ?_ _
          simp only [Act.put, List.getElem_toArray, List.getElem_cons_succ, List.getElem_cons_zero, List.setIfInBounds_toArray, List.set_cons_succ, List.set_cons_zero]
          go_wp2
          exact bodyPost_ret (v := .bool true) (by kernel_rfl) rfl ⟨rfl, hb1.trans (hS7.mono hb0)⟩
end Go.Proofs.YtidhohnhhhooaaaDoor
