/- The reference's padded, walked: the padded text. -/
import Derived.Test.YtljfjjofhclhiaaDoorSum
import Derived.Test.YtljfjjofhclhiaaDoorApp
namespace Go.Proofs.YtljfjjofhclhiaaDoor
open Go.RowKit
open Mur (St w32 u32s cell_u32s free_row set_u32s b8s dgV Byt cutA)
theorem padded_eq (b : List UInt8) : Mur.padded b = b ++ [128] ++ List.replicate (Mur.padZeros b.length) 0 ++ lenBytes b.length := rfl
set_option maxRecDepth 100000
set_option maxHeartbeats 4000000
theorem padded_any (b : List UInt8) (A : Option Addr) (n c : Nat) (w : World) (hb : Byt w A n b) (_hnc : n ≤ c) (hA : A = none → c = 0) (hn : n ≤ 140737488351232) :
    Calls Tryd.prog 50 #[.slice A n c] w fun e w' => ∃ v M T, Hid (T = Mur.padded b) ∧ e = .returned v ∧ w'.ownsRow w.heap.size 5 1 v M (b8s T) ∧ Below w.heap.size w w' := by
  have HB := Go.Lib.hid hb; clear hb
  have HA := Go.Lib.hid hA; clear hA
  go_enter Tryd.func50, Tryd.ntmps50
  go_wp2_with (first
    | (at_builtin; refine Mur.wpList_append_byt (w0 := w) w.heap.size rfl (.tmp 6) (.tmp 7) 22 5 rfl Tryd.underlying22 (by kernel_rfl) (.slice (some ⟨w.heap.size, 0, none⟩) 0 0) 0 [] b A n c rfl rfl (World.ownsRow_made w #[] 0 (Nat.le_refl _) (by unfold maxLen; omega) rfl) (HB.out.below ((Below.refl _ _).alloc (Nat.le_refl _) _)) HA.out ((Below.refl _ _).alloc (Nat.le_refl _) _) (by simp) (by omega) ?_; intro v1 w1 HO1 HB1 hg1 hat1)
    | (at_builtin; refine Mur.wpList_append_byt (w0 := w) w.heap.size rfl (.tmp 9) (.tmp 10) 22 5 rfl Tryd.underlying22 (by kernel_rfl) v1 (0 + n) ([] ++ b) [128] (some ⟨w1.heap.size, 0, none⟩) 1 1 rfl rfl (HO1.alloc _) (Mur.Byt_box _ _ _) (fun h => by cases h) (HB1.alloc HB1.size _) (by have := HB1.size; simp; omega) (by omega) ?_; intro v2 w2 HO2 HB2 hg2 hat2))
  rw [List.nil_append, Nat.zero_add] at HO2
  go_loopw [3] (fun v wr => ∃ (z N : Nat) (T : List UInt8), z ≤ Mur.padZeros n ∧ lenOf v = N ∧ Hid (N = n + 1 + z) ∧ N ≤ n + 65 ∧ Hid (T = b ++ [128] ++ List.replicate z 0) ∧ wr.ownsRow w.heap.size 5 1 v N (b8s T) ∧ Below w.heap.size w wr)
    (fun v _ => n + 100 - lenOf v)
  case atStart =>
    refine ⟨0, n + 1, _, by omega, ?_, rfl, by omega, Go.Lib.hid (by simp), HO2, HB2⟩
    obtain ⟨_, _, rfl, _⟩ := Mur.own_byt HO2
    rfl
  case round =>
    clear HO1 HO2 HB1 HB2
    obtain ⟨z, N, T, hz, hv, HN2, hN2, HT, HO, HL⟩ := hrel
    obtain ⟨A3, c3, rfl, hc3, hm3, HB3⟩ := Mur.own_byt HO
    clear hv
    have hz64 := (Mur.padZeros_spec n).2
    have hsz := HL.size
    by_cases hlt : z < Mur.padZeros n
    · have t1 : ((((N : Nat) : Int) % 64) != 56) = true := by
        have := (Mur.padZeros_spec n).1; have := HN2.out; rw [bne_iff_ne]; omega
      have hN3 : N ≤ n + 64 := by have := HN2.out; omega
      go_wp2_with (at_builtin; refine Mur.wpList_append_byt (w0 := wr) w.heap.size rfl (.tmp 16) (.tmp 17) 22 5 rfl Tryd.underlying22 (by kernel_rfl) (.slice A3 N c3) N T [0] (some ⟨wr.heap.size, 0, none⟩) 1 1 rfl rfl (HO.alloc _) (Mur.Byt_box _ _ _) (fun h => by cases h) ((Below.refl _ _).alloc hsz _) (by simp; omega) (by omega) ?_; intro v4 w4 HO4 HB4 hg4 hat4)
      obtain ⟨A5, c5, rfl, _⟩ := Mur.own_byt HO4
      refine ⟨⟨z + 1, N + 1, T ++ [0], by omega, rfl, Go.Lib.hid (by have := HN2.out; omega), by omega, Go.Lib.hid ?_, HO4, HL.trans HB4⟩, by simp [lenOf]; omega⟩
      rw [HT.out, List.replicate_succ']
      simp
    · have hz' : Hid (z = Mur.padZeros n) := Go.Lib.hid (by omega)
      have t1 : ((((N : Nat) : Int) % 64) != 56) = false := by
        have := (Mur.padZeros_spec n).1; have := HN2.out; have := hz'.out; rw [bne_eq_false_iff_eq]; omega
      have T0 : Hid (T = b ++ [128] ++ List.replicate (Mur.padZeros n) 0) := Go.Lib.hid (by rw [HT.out, hz'.out])
      clear HT HN2 hz'
      go_wp2
      go_loopw [3, 5] (fun v i wr => ∃ (k M : Nat) (T' : List UInt8) (iv : Int), k ≤ 8 ∧ i = .int .i64 iv ∧ Hid (iv = 7 - (k : Int)) ∧ lenOf v = M ∧ Hid (M = N + k) ∧ M ≤ n + 73 ∧ Hid (T' = T ++ (lenBytes n).take k) ∧ wr.ownsRow w.heap.size 5 1 v M (b8s T') ∧ Below w.heap.size w wr)
        (fun _ i _ => (intOf i + 8).toNat)
      case atStart => exact ⟨0, N, T, 7, by omega, rfl, Go.Lib.hid (by omega), rfl, rfl, by omega, Go.Lib.hid (by simp), HO, HL⟩
      case round =>
        clear HO HL HB3
        obtain ⟨k, M, T', iv, hk, rfl, hiv, hv, HM2, hM2, HT, HO, HL⟩ := hrel
        obtain ⟨A3, c3, rfl, hc3, hm3, HB3⟩ := Mur.own_byt HO
        clear hv
        have hsz := HL.size
        by_cases hlt : k < 8
        · obtain rfl : iv = 7 - (k : Int) := hiv.out
          have hM3 : M ≤ n + 72 := by have := HM2.out; omega
          obtain ⟨x, hx, hX⟩ : ∃ x : UInt8, Hid (x = Mur.byteBE (8 * n) (56 - 8 * k)) ∧ (n : Int) * 8 / 2 ^ (8 * (7 - k)) % 256 = (x.toNat : Int) := ⟨_, rfl, by rw [show 8 * (7 - k) = 56 - 8 * k by omega]; exact byte_shape n _⟩
          go_wp2_with (at_builtin; refine Mur.wpList_append_byt (w0 := wr) w.heap.size rfl (.tmp 27) (.tmp 34) 22 5 rfl Tryd.underlying22 (by kernel_rfl) (.slice A3 M c3) M T' [x] (some ⟨wr.heap.size, 0, none⟩) 1 1 rfl rfl (HO.alloc _) (Mur.Byt_box _ _ _) (fun h => by cases h) ((Below.refl _ _).alloc hsz _) (by simp; omega) (by omega) ?_; intro v4 w4 HO4 HB4 hg4 hat4)
          obtain ⟨A5, c5, rfl, _⟩ := Mur.own_byt HO4
          refine ⟨⟨k + 1, M + 1, T' ++ [x], _, by omega, rfl, Go.Lib.hid (by omega), rfl, Go.Lib.hid (by have := HM2.out; omega), by omega, Go.Lib.hid ?_, HO4, HL.trans HB4⟩, by simp [intOf]; omega⟩
          rw [HT.out, hx.out, lenBytes_take n k hlt]
          simp
        · obtain rfl : k = 8 := by omega
          have hivn : iv < 0 := by have := hiv.out; omega
          go_wp2
          refine bodyPost_ret (v := .slice A3 M c3) (by kernel_rfl) rfl ⟨_, M, T', Go.Lib.hid ?_, rfl, HO, HL⟩
          rw [HT.out, T0.out, padded_eq, HB.out.1]
          rfl
end Go.Proofs.YtljfjjofhclhiaaDoor
