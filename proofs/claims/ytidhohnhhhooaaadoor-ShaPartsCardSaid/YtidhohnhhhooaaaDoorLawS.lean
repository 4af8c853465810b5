/- ShaSums, walked: it answers true. -/
import Derived.Test.YtidhohnhhhooaaaDoorKnown
import Derived.Test.YtidhohnhhhooaaaDoorStr
namespace Go.Proofs.YtidhohnhhhooaaaDoor
open Go.RowKit
open Mur (St w32 u32s cell_u32s free_row set_u32s b8s dgV Byt cutA)
theorem H0_cells : u32s Mur.H0.toList = stCells Mur.H0 := rfl
/-- Words, its answers variables. -/
theorem words_var (w : World) : Calls Tryd.prog 7 #[] w
    fun e w' => ∃ hc kc, Hid (hc = stCells Mur.H0) ∧ Hid (kc = u32s Mur.K) ∧ e = .returned (.tuple #[.agg hc, .agg kc]) ∧ Below w.heap.size w w' :=
  (words_any w).mono fun _ _ ⟨h1, h2⟩ => ⟨_, _, rfl, rfl, h1, h2⟩
theorem Rsum_var (hc kc : Array Value) (Hh : Hid (hc = stCells Mur.H0)) (Hk : Hid (kc = u32s Mur.K)) (b : List UInt8) (A : Option Addr) (n c : Nat) (w : World) (hb : Byt w A n b) (hnc : n ≤ c) (hA : A = none → c = 0) (hn : n ≤ 140737488351232) :
    Calls Tryd.prog 9 #[.agg hc, .agg kc, .slice A n c] w fun e w' => ∃ d, Hid (d = Mur.sha b) ∧ d.length = 32 ∧ e = .returned (.agg (b8s d).toArray) ∧ Below w.heap.size w w' := by
  rw [Hh.out, Hk.out]
  exact Rsum_any b A n c w hb hnc hA hn
set_option maxRecDepth 100000
set_option maxHeartbeats 1000000
theorem ShaSums_any (b : List UInt8) (A : Option Addr) (n c : Nat) (w : World) (hv : ShaVars w) (hb : Byt w A n b) (hnc : n ≤ c) (hA : A = none → c = 0) (hn : n ≤ 9223372036854775807) :
    Calls Tryd.prog 3 #[.slice A n c] w fun e w' => e = .returned (.bool true) ∧ Below w.heap.size w w' := by
  have HV := Go.Lib.hid hv; clear hv
  have HB := Go.Lib.hid hb; clear hb
  have HA := Go.Lib.hid hA; clear hA
  go_enter Tryd.func3, Tryd.ntmps3
  by_cases hlt : 1000 < n
  · go_wp2_with (go_at_call 6; refine (known_any w HV.out).mono ?_; rintro e w2 ⟨rfl, hB2⟩)
    exact bodyPost_ret (v := .bool true) (by kernel_rfl) rfl ⟨rfl, hB2⟩
  · go_wp2_with (first
      | (at_builtin; refine Mur.wpList_append_byt (w0 := w) w.heap.size rfl (.tmp 10) (.tmp 11) 22 5 rfl Tryd.underlying22 (by kernel_rfl) (.slice (some ⟨w.heap.size, 0, none⟩) 0 0) 0 [] b A n c rfl rfl (World.ownsRow_made w #[] 0 (Nat.le_refl _) (by unfold maxLen; omega) rfl) (HB.out.below ((Below.refl _ _).alloc (Nat.le_refl _) _)) HA.out ((Below.refl _ _).alloc (Nat.le_refl _) _) (by simp) (by omega) ?_; intro v1 w1 HO1 HB1 hg1 hat1; rw [List.nil_append, Nat.zero_add] at HO1; obtain ⟨A1, c1, rfl, hc1, hm1, hB1⟩ := Mur.own_byt HO1; have HY1 := Go.Lib.hid hB1; have HA1 := Go.Lib.hid (Mur.own_nil HO1); clear hB1 HO1 hat1 hg1)
      | (go_at_call 7; refine (words_var w1).mono ?_; rintro e w2 ⟨hc, kc, Hh, Hk, rfl, hB2⟩; have hzh := Hh.out ▸ (show (stCells Mur.H0).size = 8 from rfl); have HZh := Go.Lib.hid hzh; clear hzh)
      | (refine Mur.wpList_put rfl 25 (.tmp 4) (.tmp 15) rfl w2.heap.size hc rfl rfl 25 (u32s (List.replicate 8 0)) (Mur.hp_old (Mur.hp_a1 _ _) _) (by rw [Hh.out]; kernel_rfl) (by rw [Hh.out]; rfl) (by rw [Hh.out]; exact stCells_all _) ?_; intro w3 hp3 hw3; have hp3' := Go.Lib.hid hp3; clear hp3)
      | (refine Mur.wpList_put rfl 26 (.tmp 5) (.tmp 16) rfl (w2.heap.size + 1) kc rfl rfl 26 (u32s (List.replicate 64 0)) (hw3.hp (by omega) (Mur.hp_a2 _ _ _)) (by rw [Hk.out]; kernel_rfl) (by rw [Hk.out]; rfl) (by rw [Hk.out]; exact Mur.oneCells _) ?_; intro w4 hp4 hw4; have hp4' := Go.Lib.hid hp4; clear hp4))
    have hs3 : w3.heap.size = w2.heap.size + 2 := by rw [hw3.size]; simp
    have hb4 : Below w2.heap.size w2 w4 := (((Below.refl _ _).alloc (Nat.le_refl _) _).alloc (by simp) _).trans ((hw3.below (Nat.le_refl _)).trans (hw4.below (by omega)))
    have hb1 : Below w.heap.size w w4 := HB1.trans (Mur.below_then (hB2.mono HB1.size) (Nat.le_trans HB1.size hB2.size) hb4)
    have hq4 : w4.heap[w2.heap.size]? = some (.cells hc 25 (0, 0)) := hw4.hp (by omega) hp3'.out
    have hy4 : Byt w4 A1 n b := (HY1.out.below hB2).below hb4
    have HY4 := Go.Lib.hid hy4; clear hy4
    have HYb : Hid (Byt w4 A n b) := Go.Lib.hid (HB.out.below hb1)
    have HZk : Hid (kc.size = 64) := Go.Lib.hid (by rw [Hk.out]; simp [u32s, Mur.K_length])
    have hb0 : w.heap.size ≤ w4.heap.size := hb1.size
    clear hw3 hw4 hp3' hB2 HB1 hb4
    refine wp_region_held (S := fun w' => Below w4.heap.size w4 w') (by kernel_rfl) ?_
    have hS : Below w4.heap.size w4 w4.drew := Mur.below_drewN (Below.refl _ _) 1
    refine Mur.hTake 0 (.slice A1 n c1) rfl (by kernel_rfl) (by kernel_rfl) (by kernel_rfl) (fun _ _ _ h => h) (by kernel_rfl) (fun _ _ => by kernel_rfl) hS ?_
    refine Mur.hTake 2 (.agg hc) rfl (by kernel_rfl) (by kernel_rfl) (by kernel_rfl) (fun _ _ _ h => h) (by kernel_rfl) (fun w' hw' => Mur.run_op_row 25 (.tmp 4) rfl w2.heap.size (by kernel_rfl) 25 _ (0, 0) _ (Mur.hp_below hw' hq4) Tryd.underlying25 rfl (by rw [HZh.out]; kernel_rfl)) hS ?_
    refine Mur.hTake 3 (.agg kc) rfl (by kernel_rfl) (by kernel_rfl) (by kernel_rfl) (fun _ _ _ h => h) (by kernel_rfl) (fun w' hw' => Mur.run_op_row 26 (.tmp 5) rfl (w2.heap.size + 1) (by kernel_rfl) 26 _ (0, 0) _ (Mur.hp_below hw' hp4'.out) Tryd.underlying26 rfl (by rw [HZk.out]; kernel_rfl)) hS ?_
    refine Mur.hTake 4 (.slice A n c) rfl (by kernel_rfl) (by kernel_rfl) (by kernel_rfl) (fun _ _ _ h => h) (by kernel_rfl) (fun _ _ => by kernel_rfl) hS ?_
    refine Mur.hCall 1 8 [.tmp 17] #[22] [.slice A1 n c1] (by kernel_rfl) rfl (by kernel_rfl) rfl (by kernel_rfl) (by kernel_rfl) ?_
    refine (Sum_var b A1 n c1 _ (HV.out.below (hb1.trans (hS.mono hb0))) (HY4.out.below hS) hc1 HA1.out (by omega)).mono ?_
    rintro e w5 ⟨d, hd, hdl, rfl, hB5⟩
    have hS5 : Below w4.heap.size w4 w5 := Mur.below_then hS hS.size hB5
    clear hB5 hS
    refine ⟨_, rfl, hS5, ?_⟩
    refine Mur.hCall 5 9 [.tmp 19, .tmp 20, .tmp 21] #[25, 26, 22] [.agg hc, .agg kc, .slice A n c] (by kernel_rfl) rfl (by kernel_rfl) rfl (by kernel_rfl) (by kernel_rfl) ?_
    refine (Rsum_var hc kc Hh Hk b A n c _ (HYb.out.below hS5) hnc HA.out (by omega)).mono ?_
    rintro e w6 ⟨d6, hd6, hdl6, rfl, hB6⟩
    have hS6 : Below w4.heap.size w4 w6 := Mur.below_then hS5 hS5.size hB6
    clear hB6 hS5
    have hde : d = d6 := hd.out.trans hd6.out.symm
    refine ⟨_, rfl, hS6, ?_⟩
    refine Mur.hTake 6 (.bool true) rfl (by kernel_rfl) (by kernel_rfl) (by kernel_rfl) (fun _ _ _ h => h) (by kernel_rfl) (fun w' _ => Mur.run_eql_true digT d d6 hdl hde w' (.tmp 18) (.tmp 22) 30 rfl (by kernel_rfl) (by kernel_rfl)) hS6 ?_
    refine Mur.hTake 7 (.bool true) rfl (by kernel_rfl) (by kernel_rfl) (by kernel_rfl) (fun _ _ _ h => h) (by kernel_rfl) (fun _ _ => by kernel_rfl) hS6 ?_
    refine Mur.hTake 8 (.slice A1 n c1) rfl (by kernel_rfl) (by kernel_rfl) (by kernel_rfl) (fun _ _ _ h => h) (by kernel_rfl) (fun _ _ => by kernel_rfl) hS6 ?_
    refine Mur.hTake 9 (.string (Mur.byteStr b)) rfl (by kernel_rfl) (by kernel_rfl) (by kernel_rfl) (fun _ _ _ h => h) (by kernel_rfl) (fun w' hw' => Mur.run_op_convert 22 9 (.tmp 25) (.slice A1 n c1) _ rfl (by kernel_rfl) (Mur.run_conv_byt Tryd.underlying22 Tryd.underlying5 Tryd.underlying9 c1 (HY4.out.below hw'))) hS6 ?_
    refine Mur.hTake 10 (.slice A n c) rfl (by kernel_rfl) (by kernel_rfl) (by kernel_rfl) (fun _ _ _ h => h) (by kernel_rfl) (fun _ _ => by kernel_rfl) hS6 ?_
    refine Mur.hTake 11 (.string (Mur.byteStr b)) rfl (by kernel_rfl) (by kernel_rfl) (by kernel_rfl) (fun _ _ _ h => h) (by kernel_rfl) (fun w' hw' => Mur.run_op_convert 22 9 (.tmp 27) (.slice A n c) _ rfl (by kernel_rfl) (Mur.run_conv_byt Tryd.underlying22 Tryd.underlying5 Tryd.underlying9 c (HYb.out.below hw'))) hS6 ?_
    refine Mur.hTake 12 (.bool true) rfl (by kernel_rfl) (by kernel_rfl) (by kernel_rfl) (fun _ _ _ h => h) (by kernel_rfl) (fun w' _ => Mur.run_eql_str w' (Mur.byteStr b) (.tmp 26) (.tmp 28) rfl (by kernel_rfl) (by kernel_rfl)) hS6 ?_
    refine Mur.hTake 13 (.bool true) rfl (by kernel_rfl) (by kernel_rfl) (by kernel_rfl) (fun _ _ _ h => h) (by kernel_rfl) (fun _ _ => by kernel_rfl) hS6 ?_
    refine Mur.hTake 14 (.bool true) rfl (by kernel_rfl) (by kernel_rfl) (by kernel_rfl) (fun _ _ _ h => h) (by kernel_rfl) (fun _ _ => by kernel_rfl) hS6 ?_
    refine Mur.hCall 15 6 [] #[] [] (by kernel_rfl) rfl (by kernel_rfl) rfl rfl (by kernel_rfl) ?_
    refine (known_any _ (HV.out.below (hb1.trans (hS6.mono hb0)))).mono ?_
    rintro e w7 ⟨rfl, hB7⟩
    have hS7 : Below w4.heap.size w4 w7 := Mur.below_then hS6 hS6.size hB7
    clear hB7 hS6
    refine ⟨_, rfl, hS7, ?_⟩
    refine Mur.hTake 16 (.bool true) rfl (by kernel_rfl) (by kernel_rfl) (by kernel_rfl) (fun _ _ _ h => h) (by kernel_rfl) (fun _ _ => by kernel_rfl) hS7 ?_
    refine Mur.hTake 17 (.bool true) rfl (by kernel_rfl) (by kernel_rfl) (by kernel_rfl) (fun _ _ _ h => h) (by kernel_rfl) (fun _ _ => by kernel_rfl) hS7 ?_
    refine wpAnyH_done (by kernel_rfl) ?_ _
    simp only [Act.put, List.getElem_toArray, List.getElem_cons_succ, List.getElem_cons_zero, List.setIfInBounds_toArray, List.set_cons_succ, List.set_cons_zero]
    go_wp2
    exact bodyPost_ret (v := .bool true) (by kernel_rfl) rfl ⟨rfl, hb1.trans (hS7.mono hb0)⟩
end Go.Proofs.YtidhohnhhhooaaaDoor
