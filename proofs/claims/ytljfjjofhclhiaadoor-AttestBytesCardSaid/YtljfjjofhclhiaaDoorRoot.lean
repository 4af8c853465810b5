/- The reference's root, walked. -/
import Derived.Test.YtljfjjofhclhiaaDoorTimes
import Derived.Test.YtljfjjofhclhiaaDoorPut
namespace Go.Proofs.YtljfjjofhclhiaaDoor
open Go.RowKit
theorem pow_lt3 {n power : Nat} (hn : n < 274877906944) (hp : power = 2 ∨ power = 3) : n ^ power < 65536 ^ 10 := by
  have h2 : n * n ≤ 274877906943 * 274877906943 := Nat.mul_le_mul (by omega) (by omega)
  rcases hp with rfl | rfl
  · rw [Nat.pow_two]; omega
  · rw [Nat.pow_succ, Nat.pow_two]
    have h3 : n * n * n ≤ 274877906943 * 274877906943 * 274877906943 := Nat.mul_le_mul h2 (by omega)
    omega
theorem val_zeros (c : Nat) : Mur.val (List.replicate c 0) = 0 := by
  induction c with
  | zero => rfl
  | succ c ih => rw [List.replicate_succ, Mur.val, ih]
def mostL (p power : Nat) : List Nat := (List.replicate 10 0).set (2 * power) p
theorem mostL_dig {p power : Nat} (hp : p < 65536) : Dig (mostL p power) := Dig.set ⟨rfl, by decide⟩ _ _ hp
theorem mostL_val {p power : Nat} (hp : power = 2 ∨ power = 3) : Mur.val (mostL p power) = p * 65536 ^ (2 * power) := by
  have h := Mur.val_set (List.replicate 10 0) (2 * power) p (by rw [List.length_replicate]; omega)
  have h0 : (List.replicate 10 0).getD (2 * power) 0 = 0 := by rcases hp with rfl | rfl <;> rfl
  rw [h0, val_zeros] at h
  unfold mostL
  omega
def R7 (w : World) (ml dl : List Nat) (D : Nat) (yl : List Nat) (Y : Nat) (wq : World) : Prop :=
  Below w.heap.size w wq ∧ wq.heap[w.heap.size]? = some (.cells (n64s ml) 79 (0, 0)) ∧ wq.heap[D]? = some (.cells (n64s dl) 79 (0, 0)) ∧ wq.heap[Y]? = some (.cells (n64s yl) 79 (0, 0)) ∧ w.heap.size < wq.heap.size
set_option maxRecDepth 100000
set_option maxHeartbeats 1000000
theorem root_2 (p : Nat) (w : World) (hp : p ≤ 400) :
    Calls Tryd.prog 39 #[.int .i64 (p : Int), .int .i64 2] w
      fun e w' => e = .returned (.int .u32 ((Mur.rootN p 2 : Nat) : Int)) ∧ Below w.heap.size w w' := by
  have hmd : Hid (Dig (mostL p 2)) := mostL_dig (by omega)
  have hmv : Hid (Mur.val (mostL p 2) = p * 65536 ^ (2 * 2)) := mostL_val (by decide)
  go_enter Tryd.func39, Tryd.ntmps39
  go_wp2
  obtain ⟨ml, hml⟩ : ∃ ml, Hid (ml = mostL p 2) := ⟨_, rfl⟩
  rw [← hml.out] at hmd hmv
  go_loopw [6, 7] (fun xv bv wr => ∃ m X bt : Nat, m ≤ 38 ∧ xv = .int .u64 (X : Int) ∧ bv = .int .u64 (bt : Int) ∧ Hid (bt = 2 ^ m / 2) ∧ bt ≤ 137438953472 ∧ X < 274877906944 ∧ Hid (X + 2 ^ m ≤ 274877906944) ∧ Hid (Mur.rootFrom p 2 m X = Mur.rootFrom p 2 38 0) ∧
      Below w.heap.size w wr ∧ w.heap.size < wr.heap.size ∧ wr.heap[w.heap.size]? = some (.cells (n64s ml) 79 (0, 0))) (fun _ bv _ => (intOf bv).toNat)
  case atStart =>
    refine ⟨38, 0, 137438953472, by omega, rfl, rfl, Go.Lib.hid (by decide), by omega, by omega, Go.Lib.hid (by decide), rfl, (Below.refl _ _).alloc (Nat.le_refl _) _, by simp, ?_⟩
    rw [hml.out]
    exact (Mur.hp_a1 _ _).trans rfl
  case round =>
    obtain ⟨m, X, bt, hm, rfl, rfl, hbt, hbl, hX, hXm, hroot, hB, hsz, hml0⟩ := hrel
    by_cases h0 : bt = 0
    · have hm0 : Hid (m = 0) := Go.Lib.hid (by
        rcases Nat.eq_zero_or_pos m with h | h
        · exact h
        · have h1 := hbt.out
          have h2 : 2 ^ m = 2 ^ (m - 1) * 2 := by rw [← Nat.pow_succ]; congr 1; omega
          have h3 : 0 < 2 ^ (m - 1) := Nat.pow_pos (by omega)
          omega)
      have hres : Hid (X % 4294967296 = Mur.rootN p 2) := Go.Lib.hid (by
        have h := hroot.out
        rw [hm0.out] at h
        rw [Mur.rootN, ← h]
        rfl)
      subst h0
      go_wp2
      go_ret
      exact ⟨by rw [← hres.out]; rfl, hB⟩
    · obtain ⟨q, rfl⟩ : ∃ q, m = q + 1 := ⟨m - 1, by
        have h1 := hbt.out
        rcases Nat.eq_zero_or_pos m with h | h
        · subst h; simp at h1; omega
        · omega⟩
      have hb2 : Hid (bt = 2 ^ q) := Go.Lib.hid (by rw [hbt.out, Nat.pow_succ]; omega)
      obtain ⟨N, hN⟩ : ∃ N, N = X + bt := ⟨_, rfl⟩
      have hNb : N < 274877906945 ∧ N ≤ 274877906944 - bt := by have := hXm.out; rw [Nat.pow_succ, ← hb2.out] at this; omega
      obtain ⟨hN1, hN2⟩ := hNb
      have hNe : (X : Int) + (bt : Int) = (N : Int) := by omega
      have HN := Go.Lib.hid hN; clear hN
      go_wp2_with (first
        | (go_at_call 47; refine (digits_any N wr (by omega)).mono ?_; rintro e w2 ⟨dl, hdl, hdl10, hdl6, rfl, hB2⟩; have hDl := Go.Lib.hid (And.intro hdl10 hdl6); clear hdl10 hdl6; have hDz := Go.Lib.hid ((n64s_size dl).trans hDl.out.1))
        | (refine Mur.wpList_put rfl 79 (.tmp 8) (.tmp 23) rfl w2.heap.size (n64s dl) rfl rfl 79 (n64s (List.replicate 10 0)) (Mur.hp_a1 _ _) (by rw [hDz.out]; kernel_rfl) (by rw [hDz.out]; rfl) (n64s_all _) ?_; intro w3 hp3 hw3; have hp3' := Go.Lib.hid hp3; clear hp3; have hz3 := hw3.size; rw [World.size_alloc] at hz3; have hZ3 := Go.Lib.hid hz3; clear hz3)
        | (refine wpList_load_row rfl 79 (.tmp 8) rfl w2.heap.size rfl 79 (n64s dl) (0, 0) _ hp3'.out Tryd.underlying79 rfl (by rw [hDz.out]; kernel_rfl) ?_)
        | (refine Mur.wpList_put rfl 79 (.tmp 9) (.tmp 24) rfl w3.heap.size (n64s dl) rfl rfl 79 (n64s (List.replicate 10 0)) (Mur.hp_a1 _ _) (by rw [hDz.out]; kernel_rfl) (by rw [hDz.out]; rfl) (n64s_all _) ?_; intro w4 hp4 hw4; have hp4' := Go.Lib.hid hp4; clear hp4; have hz4 := hw4.size; rw [World.size_alloc] at hz4; have hZ4 := Go.Lib.hid hz4; clear hz4))
      have hR : R7 w ml dl w2.heap.size dl w3.heap.size w4 := by
        have e3 := hZ3.out
        have e4 := hZ4.out
        have s2 := hB2.size
        refine ⟨?_, ?_, ?_, hp4'.out, by omega⟩
        · refine (((hB.trans (hB2.mono (by omega))).alloc (by omega) _).trans (hw3.below (by omega))).alloc (by omega) _ |>.trans (hw4.below (by omega))
        · exact hw4.hp (by omega) (Mur.hp_old (hw3.hp (by omega) (Mur.hp_old (Mur.hp_below hB2 hml0) _)) _)
        · exact hw4.hp (by omega) (Mur.hp_old hp3'.out _)
      have hord : w.heap.size < w2.heap.size ∧ w2.heap.size < w3.heap.size := by have := hZ3.out; have := hB2.size; omega
      obtain ⟨hord1, hord2⟩ := hord
      obtain ⟨D, hD⟩ : ∃ D, D = w2.heap.size := ⟨_, rfl⟩
      obtain ⟨Y, hY⟩ : ∃ Y, Y = w3.heap.size := ⟨_, rfl⟩
      rw [← hD, ← hY] at hR
      rw [← hD] at hord1
      rw [← hD, ← hY] at hord2
      rw [← hD, ← hY]
      clear hD hY hp3' hp4' hZ3 hZ4 hw3 hw4 hB2 hml0 hsz hB
      go_loopw [10] (fun t wq => ∃ (k : Nat) (yl : List Nat), 1 ≤ k ∧ k ≤ 2 ∧ t = .int .i64 k ∧ Hid (Dig yl) ∧ Hid (Mur.val yl % 65536 ^ 10 = N ^ k % 65536 ^ 10) ∧ R7 w ml dl D yl Y wq) (fun t _ => 2 - (intOf t).toNat)
      case atStart =>
        refine ⟨1, dl, by omega, by omega, rfl, hDl, Go.Lib.hid ?_, hR⟩
        rw [hdl.out, Mur.val_dgs, Nat.pow_one, Nat.mod_mod]
      case round =>
        clear hR
        obtain ⟨k, yl, hk1, hk, rfl, hyd, hyv, hR⟩ := hrel
        have hyz : Hid ((n64s yl).size = 10) := Go.Lib.hid (by rw [n64s_size, hyd.out.1])
        by_cases hlt : k < 2
        · go_wp2_with (first
            | (refine wpList_load_row rfl 79 (.tmp 9) rfl Y rfl 79 (n64s yl) (0, 0) _ hR.2.2.2.1 Tryd.underlying79 rfl (by rw [hyz.out]; kernel_rfl) ?_)
            | (refine wpList_load_row rfl 79 (.tmp 8) rfl D rfl 79 (n64s dl) (0, 0) _ hR.2.2.1 Tryd.underlying79 rfl (by rw [hDz.out]; kernel_rfl) ?_)
            | (go_at_call 48; refine (times_any yl dl wr hyd.out hDl.out).mono ?_; rintro e w5 ⟨l, hlv, hld, rfl, hB5⟩; have hLd := Go.Lib.hid hld; clear hld; have hLz := Go.Lib.hid ((n64s_size l).trans hLd.out.1))
            | (refine Mur.wpList_put rfl 79 (.tmp 9) (.tmp 32) rfl Y (n64s l) rfl rfl 79 (n64s yl) (Mur.hp_below hB5 hR.2.2.2.1) (by rw [hLz.out]; kernel_rfl) (by rw [hLz.out, hyz.out]) (n64s_all _) ?_; intro w6 hp6 hw6; have hp6' := Go.Lib.hid hp6; clear hp6))
          refine ⟨⟨k + 1, l, by omega, by omega, by go_num, hLd, Go.Lib.hid ?_, ?_⟩, by simp [intOf]; omega⟩
          · have hdv : Mur.val dl = N % 65536 ^ 10 := by rw [hdl.out, Mur.val_dgs]
            rw [hlv.out, hdv, Nat.mul_mod, hyv.out, Nat.mod_mod, Nat.pow_succ]
            exact (Nat.mul_mod _ _ _).symm
          · have hs := hR.2.2.2.2
            have s5 := hB5.size
            exact ⟨(hR.1.trans (hB5.mono (by omega))).trans (hw6.below (by omega)), hw6.hp (by omega) (Mur.hp_below hB5 hR.2.1), hw6.hp (by omega) (Mur.hp_below hB5 hR.2.2.1), hp6'.out, by rw [hw6.size]; omega⟩
        · obtain rfl : k = 2 := by omega
          have hval : Hid (Mur.val yl = N ^ 2) := Go.Lib.hid (by
            have h1 := hyv.out
            have h2 := Mur.val_lt yl hyd.out.2
            rw [hyd.out.1] at h2
            rwa [Nat.mod_eq_of_lt h2, Nat.mod_eq_of_lt (pow_lt3 (by omega) (by decide))] at h1)
          by_cases hc : Mur.val ml < Mur.val yl
          · have hT : decide (Mur.val ml < Mur.val yl) = true := by simpa using hc
            have hroot2 : Hid (Mur.rootFrom p 2 q X = Mur.rootFrom p 2 38 0) := Go.Lib.hid (by
              have h := hroot.out
              rw [hval.out, hmv.out, HN.out, hb2.out] at hc
              rw [← h, Mur.rootFrom, Mur.force_eq, if_neg (by omega)])
            clear hc
            go_wp2_with (first
              | (refine wpList_load_row rfl 79 (.tmp 9) rfl Y rfl 79 (n64s yl) (0, 0) _ hR.2.2.2.1 Tryd.underlying79 rfl (by rw [hyz.out]; kernel_rfl) ?_)
              | (refine wpList_load_row rfl 79 (.tmp 5) rfl w.heap.size rfl 79 (n64s ml) (0, 0) _ hR.2.1 Tryd.underlying79 rfl (by rw [n64s_size, hmd.out.1]; kernel_rfl) ?_)
              | (go_at_call 49; refine (above_any yl ml wr hyd.out.1 hmd.out.1 hyd.out.2 hmd.out.2).mono ?_; rintro e w7 ⟨rfl, hB7⟩))
            refine ⟨⟨q, X, bt / 2, by omega, rfl, by go_num, Go.Lib.hid (by rw [hb2.out]), by omega, by omega, Go.Lib.hid ?_, hroot2, ?_, ?_, ?_⟩, by simp [intOf]; omega⟩
            · have := hXm.out; rw [Nat.pow_succ] at this; omega
            · exact hR.1.trans (hB7.mono (by have := hR.2.2.2.2; omega))
            · have := hR.2.2.2.2; have := hB7.size; omega
            · exact Mur.hp_below hB7 hR.2.1
          · have hT : decide (Mur.val ml < Mur.val yl) = false := by simpa using hc
            have hroot2 : Hid (Mur.rootFrom p 2 q N = Mur.rootFrom p 2 38 0) := Go.Lib.hid (by
              have h := hroot.out
              rw [hval.out, hmv.out, HN.out, hb2.out] at hc
              rw [← h, Mur.rootFrom, Mur.force_eq, if_pos (by omega), HN.out, hb2.out])
            clear hc
            go_wp2_with (first
              | (refine wpList_load_row rfl 79 (.tmp 9) rfl Y rfl 79 (n64s yl) (0, 0) _ hR.2.2.2.1 Tryd.underlying79 rfl (by rw [hyz.out]; kernel_rfl) ?_)
              | (refine wpList_load_row rfl 79 (.tmp 5) rfl w.heap.size rfl 79 (n64s ml) (0, 0) _ hR.2.1 Tryd.underlying79 rfl (by rw [n64s_size, hmd.out.1]; kernel_rfl) ?_)
              | (go_at_call 49; refine (above_any yl ml wr hyd.out.1 hmd.out.1 hyd.out.2 hmd.out.2).mono ?_; rintro e w7 ⟨rfl, hB7⟩))
            refine ⟨⟨q, N, bt / 2, by omega, by go_num, by go_num, Go.Lib.hid (by rw [hb2.out]), by omega, by omega, Go.Lib.hid ?_, hroot2, ?_, ?_, ?_⟩, by simp [intOf]; omega⟩
            · have := hXm.out; rw [Nat.pow_succ] at this; have := HN.out; have := hb2.out; omega
            · exact hR.1.trans (hB7.mono (by have := hR.2.2.2.2; omega))
            · have := hR.2.2.2.2; have := hB7.size; omega
            · exact Mur.hp_below hB7 hR.2.1
theorem root_3 (p : Nat) (w : World) (hp : p ≤ 400) :
    Calls Tryd.prog 39 #[.int .i64 (p : Int), .int .i64 3] w
      fun e w' => e = .returned (.int .u32 ((Mur.rootN p 3 : Nat) : Int)) ∧ Below w.heap.size w w' := by
  have hmd : Hid (Dig (mostL p 3)) := mostL_dig (by omega)
  have hmv : Hid (Mur.val (mostL p 3) = p * 65536 ^ (2 * 3)) := mostL_val (by decide)
  go_enter Tryd.func39, Tryd.ntmps39
  go_wp2
  obtain ⟨ml, hml⟩ : ∃ ml, Hid (ml = mostL p 3) := ⟨_, rfl⟩
  rw [← hml.out] at hmd hmv
  go_loopw [6, 7] (fun xv bv wr => ∃ m X bt : Nat, m ≤ 38 ∧ xv = .int .u64 (X : Int) ∧ bv = .int .u64 (bt : Int) ∧ Hid (bt = 2 ^ m / 2) ∧ bt ≤ 137438953472 ∧ X < 274877906944 ∧ Hid (X + 2 ^ m ≤ 274877906944) ∧ Hid (Mur.rootFrom p 3 m X = Mur.rootFrom p 3 38 0) ∧
      Below w.heap.size w wr ∧ w.heap.size < wr.heap.size ∧ wr.heap[w.heap.size]? = some (.cells (n64s ml) 79 (0, 0))) (fun _ bv _ => (intOf bv).toNat)
  case atStart =>
    refine ⟨38, 0, 137438953472, by omega, rfl, rfl, Go.Lib.hid (by decide), by omega, by omega, Go.Lib.hid (by decide), rfl, (Below.refl _ _).alloc (Nat.le_refl _) _, by simp, ?_⟩
    rw [hml.out]
    exact (Mur.hp_a1 _ _).trans rfl
  case round =>
    obtain ⟨m, X, bt, hm, rfl, rfl, hbt, hbl, hX, hXm, hroot, hB, hsz, hml0⟩ := hrel
    by_cases h0 : bt = 0
    · have hm0 : Hid (m = 0) := Go.Lib.hid (by
        rcases Nat.eq_zero_or_pos m with h | h
        · exact h
        · have h1 := hbt.out
          have h2 : 2 ^ m = 2 ^ (m - 1) * 2 := by rw [← Nat.pow_succ]; congr 1; omega
          have h3 : 0 < 2 ^ (m - 1) := Nat.pow_pos (by omega)
          omega)
      have hres : Hid (X % 4294967296 = Mur.rootN p 3) := Go.Lib.hid (by
        have h := hroot.out
        rw [hm0.out] at h
        rw [Mur.rootN, ← h]
        rfl)
      subst h0
      go_wp2
      go_ret
      exact ⟨by rw [← hres.out]; rfl, hB⟩
    · obtain ⟨q, rfl⟩ : ∃ q, m = q + 1 := ⟨m - 1, by
        have h1 := hbt.out
        rcases Nat.eq_zero_or_pos m with h | h
        · subst h; simp at h1; omega
        · omega⟩
      have hb2 : Hid (bt = 2 ^ q) := Go.Lib.hid (by rw [hbt.out, Nat.pow_succ]; omega)
      obtain ⟨N, hN⟩ : ∃ N, N = X + bt := ⟨_, rfl⟩
      have hNb : N < 274877906945 ∧ N ≤ 274877906944 - bt := by have := hXm.out; rw [Nat.pow_succ, ← hb2.out] at this; omega
      obtain ⟨hN1, hN2⟩ := hNb
      have hNe : (X : Int) + (bt : Int) = (N : Int) := by omega
      have HN := Go.Lib.hid hN; clear hN
      go_wp2_with (first
        | (go_at_call 47; refine (digits_any N wr (by omega)).mono ?_; rintro e w2 ⟨dl, hdl, hdl10, hdl6, rfl, hB2⟩; have hDl := Go.Lib.hid (And.intro hdl10 hdl6); clear hdl10 hdl6; have hDz := Go.Lib.hid ((n64s_size dl).trans hDl.out.1))
        | (refine Mur.wpList_put rfl 79 (.tmp 8) (.tmp 23) rfl w2.heap.size (n64s dl) rfl rfl 79 (n64s (List.replicate 10 0)) (Mur.hp_a1 _ _) (by rw [hDz.out]; kernel_rfl) (by rw [hDz.out]; rfl) (n64s_all _) ?_; intro w3 hp3 hw3; have hp3' := Go.Lib.hid hp3; clear hp3; have hz3 := hw3.size; rw [World.size_alloc] at hz3; have hZ3 := Go.Lib.hid hz3; clear hz3)
        | (refine wpList_load_row rfl 79 (.tmp 8) rfl w2.heap.size rfl 79 (n64s dl) (0, 0) _ hp3'.out Tryd.underlying79 rfl (by rw [hDz.out]; kernel_rfl) ?_)
        | (refine Mur.wpList_put rfl 79 (.tmp 9) (.tmp 24) rfl w3.heap.size (n64s dl) rfl rfl 79 (n64s (List.replicate 10 0)) (Mur.hp_a1 _ _) (by rw [hDz.out]; kernel_rfl) (by rw [hDz.out]; rfl) (n64s_all _) ?_; intro w4 hp4 hw4; have hp4' := Go.Lib.hid hp4; clear hp4; have hz4 := hw4.size; rw [World.size_alloc] at hz4; have hZ4 := Go.Lib.hid hz4; clear hz4))
      have hR : R7 w ml dl w2.heap.size dl w3.heap.size w4 := by
        have e3 := hZ3.out
        have e4 := hZ4.out
        have s2 := hB2.size
        refine ⟨?_, ?_, ?_, hp4'.out, by omega⟩
        · refine (((hB.trans (hB2.mono (by omega))).alloc (by omega) _).trans (hw3.below (by omega))).alloc (by omega) _ |>.trans (hw4.below (by omega))
        · exact hw4.hp (by omega) (Mur.hp_old (hw3.hp (by omega) (Mur.hp_old (Mur.hp_below hB2 hml0) _)) _)
        · exact hw4.hp (by omega) (Mur.hp_old hp3'.out _)
      have hord : w.heap.size < w2.heap.size ∧ w2.heap.size < w3.heap.size := by have := hZ3.out; have := hB2.size; omega
      obtain ⟨hord1, hord2⟩ := hord
      obtain ⟨D, hD⟩ : ∃ D, D = w2.heap.size := ⟨_, rfl⟩
      obtain ⟨Y, hY⟩ : ∃ Y, Y = w3.heap.size := ⟨_, rfl⟩
      rw [← hD, ← hY] at hR
      rw [← hD] at hord1
      rw [← hD, ← hY] at hord2
      rw [← hD, ← hY]
      clear hD hY hp3' hp4' hZ3 hZ4 hw3 hw4 hB2 hml0 hsz hB
      go_loopw [10] (fun t wq => ∃ (k : Nat) (yl : List Nat), 1 ≤ k ∧ k ≤ 3 ∧ t = .int .i64 k ∧ Hid (Dig yl) ∧ Hid (Mur.val yl % 65536 ^ 10 = N ^ k % 65536 ^ 10) ∧ R7 w ml dl D yl Y wq) (fun t _ => 3 - (intOf t).toNat)
      case atStart =>
        refine ⟨1, dl, by omega, by omega, rfl, hDl, Go.Lib.hid ?_, hR⟩
        rw [hdl.out, Mur.val_dgs, Nat.pow_one, Nat.mod_mod]
      case round =>
        clear hR
        obtain ⟨k, yl, hk1, hk, rfl, hyd, hyv, hR⟩ := hrel
        have hyz : Hid ((n64s yl).size = 10) := Go.Lib.hid (by rw [n64s_size, hyd.out.1])
        by_cases hlt : k < 3
        · go_wp2_with (first
            | (refine wpList_load_row rfl 79 (.tmp 9) rfl Y rfl 79 (n64s yl) (0, 0) _ hR.2.2.2.1 Tryd.underlying79 rfl (by rw [hyz.out]; kernel_rfl) ?_)
            | (refine wpList_load_row rfl 79 (.tmp 8) rfl D rfl 79 (n64s dl) (0, 0) _ hR.2.2.1 Tryd.underlying79 rfl (by rw [hDz.out]; kernel_rfl) ?_)
            | (go_at_call 48; refine (times_any yl dl wr hyd.out hDl.out).mono ?_; rintro e w5 ⟨l, hlv, hld, rfl, hB5⟩; have hLd := Go.Lib.hid hld; clear hld; have hLz := Go.Lib.hid ((n64s_size l).trans hLd.out.1))
            | (refine Mur.wpList_put rfl 79 (.tmp 9) (.tmp 32) rfl Y (n64s l) rfl rfl 79 (n64s yl) (Mur.hp_below hB5 hR.2.2.2.1) (by rw [hLz.out]; kernel_rfl) (by rw [hLz.out, hyz.out]) (n64s_all _) ?_; intro w6 hp6 hw6; have hp6' := Go.Lib.hid hp6; clear hp6))
          refine ⟨⟨k + 1, l, by omega, by omega, by go_num, hLd, Go.Lib.hid ?_, ?_⟩, by simp [intOf]; omega⟩
          · have hdv : Mur.val dl = N % 65536 ^ 10 := by rw [hdl.out, Mur.val_dgs]
            rw [hlv.out, hdv, Nat.mul_mod, hyv.out, Nat.mod_mod, Nat.pow_succ]
            exact (Nat.mul_mod _ _ _).symm
          · have hs := hR.2.2.2.2
            have s5 := hB5.size
            exact ⟨(hR.1.trans (hB5.mono (by omega))).trans (hw6.below (by omega)), hw6.hp (by omega) (Mur.hp_below hB5 hR.2.1), hw6.hp (by omega) (Mur.hp_below hB5 hR.2.2.1), hp6'.out, by rw [hw6.size]; omega⟩
        · obtain rfl : k = 3 := by omega
          have hval : Hid (Mur.val yl = N ^ 3) := Go.Lib.hid (by
            have h1 := hyv.out
            have h2 := Mur.val_lt yl hyd.out.2
            rw [hyd.out.1] at h2
            rwa [Nat.mod_eq_of_lt h2, Nat.mod_eq_of_lt (pow_lt3 (by omega) (by decide))] at h1)
          by_cases hc : Mur.val ml < Mur.val yl
          · have hT : decide (Mur.val ml < Mur.val yl) = true := by simpa using hc
            have hroot2 : Hid (Mur.rootFrom p 3 q X = Mur.rootFrom p 3 38 0) := Go.Lib.hid (by
              have h := hroot.out
              rw [hval.out, hmv.out, HN.out, hb2.out] at hc
              rw [← h, Mur.rootFrom, Mur.force_eq, if_neg (by omega)])
            clear hc
            go_wp2_with (first
              | (refine wpList_load_row rfl 79 (.tmp 9) rfl Y rfl 79 (n64s yl) (0, 0) _ hR.2.2.2.1 Tryd.underlying79 rfl (by rw [hyz.out]; kernel_rfl) ?_)
              | (refine wpList_load_row rfl 79 (.tmp 5) rfl w.heap.size rfl 79 (n64s ml) (0, 0) _ hR.2.1 Tryd.underlying79 rfl (by rw [n64s_size, hmd.out.1]; kernel_rfl) ?_)
              | (go_at_call 49; refine (above_any yl ml wr hyd.out.1 hmd.out.1 hyd.out.2 hmd.out.2).mono ?_; rintro e w7 ⟨rfl, hB7⟩))
            refine ⟨⟨q, X, bt / 2, by omega, rfl, by go_num, Go.Lib.hid (by rw [hb2.out]), by omega, by omega, Go.Lib.hid ?_, hroot2, ?_, ?_, ?_⟩, by simp [intOf]; omega⟩
            · have := hXm.out; rw [Nat.pow_succ] at this; omega
            · exact hR.1.trans (hB7.mono (by have := hR.2.2.2.2; omega))
            · have := hR.2.2.2.2; have := hB7.size; omega
            · exact Mur.hp_below hB7 hR.2.1
          · have hT : decide (Mur.val ml < Mur.val yl) = false := by simpa using hc
            have hroot2 : Hid (Mur.rootFrom p 3 q N = Mur.rootFrom p 3 38 0) := Go.Lib.hid (by
              have h := hroot.out
              rw [hval.out, hmv.out, HN.out, hb2.out] at hc
              rw [← h, Mur.rootFrom, Mur.force_eq, if_pos (by omega), HN.out, hb2.out])
            clear hc
            go_wp2_with (first
              | (refine wpList_load_row rfl 79 (.tmp 9) rfl Y rfl 79 (n64s yl) (0, 0) _ hR.2.2.2.1 Tryd.underlying79 rfl (by rw [hyz.out]; kernel_rfl) ?_)
              | (refine wpList_load_row rfl 79 (.tmp 5) rfl w.heap.size rfl 79 (n64s ml) (0, 0) _ hR.2.1 Tryd.underlying79 rfl (by rw [n64s_size, hmd.out.1]; kernel_rfl) ?_)
              | (go_at_call 49; refine (above_any yl ml wr hyd.out.1 hmd.out.1 hyd.out.2 hmd.out.2).mono ?_; rintro e w7 ⟨rfl, hB7⟩))
            refine ⟨⟨q, N, bt / 2, by omega, by go_num, by go_num, Go.Lib.hid (by rw [hb2.out]), by omega, by omega, Go.Lib.hid ?_, hroot2, ?_, ?_, ?_⟩, by simp [intOf]; omega⟩
            · have := hXm.out; rw [Nat.pow_succ] at this; have := HN.out; have := hb2.out; omega
            · exact hR.1.trans (hB7.mono (by have := hR.2.2.2.2; omega))
            · have := hR.2.2.2.2; have := hB7.size; omega
            · exact Mur.hp_below hB7 hR.2.1
theorem root_any (p power : Nat) (w : World) (hp : p ≤ 400) (hpw : power = 2 ∨ power = 3) :
    Calls Tryd.prog 39 #[.int .i64 (p : Int), .int .i64 (power : Int)] w
      fun e w' => e = .returned (.int .u32 ((Mur.rootN p power : Nat) : Int)) ∧ Below w.heap.size w w' := by
  rcases hpw with rfl | rfl
  · exact root_2 p w hp
  · exact root_3 p w hp
end Go.Proofs.YtljfjjofhclhiaaDoor
