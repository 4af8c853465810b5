/- The reference's prime, digits, above, walked. -/
import Derived.Test.YtljfjjofhclhiaaDoorProg
import Derived.Test.YtljfjjofhclhiaaDoorSpec
import Derived.Test.YtljfjjofhclhiaaDoorU32
import Derived.Test.YtljfjjofhclhiaaDoorMem
import Derived.Test.YtljfjjofhclhiaaDoorTail
import Derived.WalkKit
import Derived.WalkLawsBesides
import Derived.WalkSpells
import Derived.Deep.QuietTactic
import Derived.BigQuiet
import Derived.Laws.CopyOwn
namespace Go.Proofs.YtljfjjofhclhiaaDoor
open Go.RowKit
def n64s (l : List Nat) : Array Value := (l.map fun x : Nat => Value.int .u64 (x : Int)).toArray
theorem cell_n64s {w : World} {g t i : Nat} {fr : Nat × Nat} {l : List Nat} (h : w.heap[g]? = some (.cells (n64s l) t fr)) (hi : i < l.length) : w.cell? ⟨g, i, none⟩ = some (.int .u64 ((l.getD i 0 : Nat) : Int)) := by
  rw [cell_of_row w g i _ t _ h]
  simp [n64s, List.getD_eq_getElem?_getD, hi]
theorem set_n64s {w : World} {g t i : Nat} {l : List Nat} (h : w.heap[g]? = some (.cells (n64s l) t (0, 0))) (x : Nat) : (w.setCell ⟨g, i, none⟩ (.int .u64 (x : Int))).heap[g]? = some (.cells (n64s (l.set i x)) t (0, 0)) := by
  rw [heap_setCell_same w g i _ t _ h]
  simp [n64s, List.map_set]
theorem n64s_all (l : List Nat) : (n64s l).all (·.oneCell') = true := by simp [n64s, Value.oneCell']
theorem n64s_size (l : List Nat) : (n64s l).size = l.length := by simp [n64s]
theorem getD_lt {l : List Nat} {B : Nat} (hB : 0 < B) (h : ∀ x ∈ l, x < B) (i : Nat) : l.getD i 0 < B := by
  rw [List.getD_eq_getElem?_getD]
  cases hq : l[i]? with
  | none => simpa using hB
  | some x => exact h x (List.mem_of_getElem? hq)
theorem ret_bool {a b : Bool} (h : a = b) : Ending.returned (.bool a) = .returned (.bool b) := by rw [h]
theorem primeB_of {n k : Nat} (h : ∀ j, 2 ≤ j → j < k → n % j ≠ 0) (hsq : n < k * k) : Mur.primeB n = decide (1 < n) := by
  have hall : ((List.range n).all fun j => decide (j < 2) || decide (n < j * j) || n % j != 0) = true := by
    rw [List.all_eq_true]
    intro j _
    by_cases h2 : j < 2
    · simp [h2]
    · by_cases hj : j < k
      · have := h j (by omega) hj
        simp [this]
      · have : k * k ≤ j * j := Nat.mul_le_mul (by omega) (by omega)
        simp [show n < j * j by omega]
  unfold Mur.primeB
  rw [hall, Bool.and_true]
theorem primeB_not {n k : Nat} (hk : 2 ≤ k) (hsq : k * k ≤ n) (hd : n % k = 0) : Mur.primeB n = false := by
  have hlt : k < n := by
    have : 2 * k ≤ k * k := Nat.mul_le_mul_right _ hk
    omega
  unfold Mur.primeB
  rw [Bool.and_eq_false_iff]
  right
  rw [List.all_eq_false]
  exact ⟨k, List.mem_range.2 hlt, by simp [hd, show ¬ k < 2 by omega, show ¬ n < k * k by omega]⟩
set_option maxRecDepth 100000
theorem prime_any (n : Nat) (w : World) (hn : n ≤ 400) : Calls Tryd.prog 46 #[.int .i64 (n : Int)] w fun e w' => e = .returned (.bool (Mur.primeB n)) ∧ w = w' := by
  go_enter Tryd.func46, Tryd.ntmps46
  go_wp2
  go_loop [3] (fun v => ∃ k : Nat, 2 ≤ k ∧ k ≤ n + 2 ∧ v = .int .i64 k ∧ Hid (∀ j, 2 ≤ j → j < k → n % j ≠ 0)) (fun v => n + 3 - (intOf v).toNat)
  case atStart => exact ⟨2, by omega, by omega, rfl, fun j h1 h2 => by omega⟩
  case round =>
    obtain ⟨k, hk2, hkn, rfl, hno⟩ := hrel
    have b1 : (k : Int) * (k : Int) ≤ 1000000 := by
      have : k * k ≤ 402 * 402 := Nat.mul_le_mul (by omega) (by omega)
      have h : ((k * k : Nat) : Int) ≤ 1000000 := by omega
      rwa [Int.natCast_mul] at h
    have b0 : 0 ≤ (k : Int) * (k : Int) := Int.mul_nonneg (by omega) (by omega)
    by_cases hsq : k * k ≤ n
    · have hsq' : (k : Int) * (k : Int) ≤ (n : Int) := by
        have h : ((k * k : Nat) : Int) ≤ (n : Int) := by omega
        rwa [Int.natCast_mul] at h
      by_cases hd : n % k = 0
      · have hp := primeB_not hk2 hsq hd
        have HP := Go.Lib.hid hp; clear hp
        have hd' : ((n : Int) % (k : Int) == 0) = true := by rw [beq_iff_eq]; omega
        clear hsq hd
        go_wp2
        go_ret
        exact ⟨by rw [HP.out]; rfl, rfl⟩
      · have hd' : ((n : Int) % (k : Int) == 0) = false := by rw [beq_eq_false_iff_ne]; omega
        have HD := Go.Lib.hid hd; clear hd
        have HS := Go.Lib.hid hsq; clear hsq
        go_wp2
        refine ⟨⟨k + 1, by omega, ?_, by go_num, fun j h1 h2 => ?_⟩, by simp [intOf]; omega⟩
        · have : 2 * k ≤ k * k := Nat.mul_le_mul_right _ hk2
          have := HS.out
          omega
        · by_cases e : j = k
          · rw [e]; exact HD.out
          · exact hno.out j h1 (by omega)
    · have hsq' : (n : Int) < (k : Int) * (k : Int) := by
        have h : (n : Int) < ((k * k : Nat) : Int) := by omega
        rwa [Int.natCast_mul] at h
      have hp := primeB_of hno.out (by omega)
      have HP := Go.Lib.hid hp; clear hp hno hsq
      go_wp2
      go_ret
      exact ⟨ret_bool (by rw [HP.out, decide_eq_decide]; omega), rfl⟩
/-- digits: of a number below 2^48. -/
def L3 (w : World) (d e : List Nat) (wr : World) : Prop :=
  Below w.heap.size w wr ∧ wr.heap.size = w.heap.size + 2 ∧ wr.heap[w.heap.size]? = some (.cells (n64s d) 79 (0, 0)) ∧ wr.heap[w.heap.size + 1]? = some (.cells (n64s e) 79 (0, 0))
theorem L3.set {w wr : World} {d e : List Nat} (h : L3 w d e wr) (k x : Nat) : L3 w d (e.set k x) (wr.setCell ⟨w.heap.size + 1, k, none⟩ (.int .u64 (x : Int))) :=
  ⟨h.1.setCell (by simp) _, by simpa using h.2.1, Mur.hp_set_ne h.2.2.1 _ _ _ (by omega), set_n64s h.2.2.2 x⟩
def digTo4 (n k : Nat) : List Nat := (Mur.dgs 10 n).take k ++ List.replicate (10 - k) 0
theorem digTo4_succ (n k : Nat) (h : k < 10) : digTo4 n (k + 1) = (digTo4 n k).set k (n / 65536 ^ k % 65536) := by
  have hl := Mur.dgs_length 10 n
  have hq : k < (Mur.dgs 10 n).length := by omega
  have hg : (Mur.dgs 10 n)[k] = n / 65536 ^ k % 65536 := by
    rw [← Mur.dgs_getD 10 n k h, List.getD_eq_getElem?_getD, List.getElem?_eq_getElem hq]
    rfl
  have hlt : ((Mur.dgs 10 n).take k).length = k := by rw [List.length_take]; omega
  rw [digTo4, digTo4, List.take_succ_eq_append_getElem hq, hg, show 10 - k = (10 - (k + 1)) + 1 by omega, List.replicate_succ, List.set_append_right _ _ (by omega), hlt, Nat.sub_self, List.set_cons_zero, List.append_assoc]
  rfl
theorem digTo4_length (n k : Nat) (h : k ≤ 10) : (digTo4 n k).length = 10 := by simp [digTo4, Mur.dgs_length]; omega
theorem digTo4_four (n : Nat) (h : n < 281474976710656) : digTo4 n 4 = Mur.dgs 10 n := by
  have e := Mur.dgs_small 4 6 n (by omega)
  have hl := Mur.dgs_length 4 n
  unfold digTo4
  rw [e, List.take_append_of_le_length (by omega), List.take_of_length_le (by omega)]
theorem digits_any (n : Nat) (w : World) (hn : n < 281474976710656) : Calls Tryd.prog 47 #[.int .u64 (n : Int)] w
    fun e w' => ∃ l, Hid (l = Mur.dgs 10 n) ∧ l.length = 10 ∧ (∀ x ∈ l, x < 65536) ∧ e = .returned (.agg (n64s l)) ∧ Below w.heap.size w w' := by
  go_enter Tryd.func47, Tryd.ntmps47
  go_wp2
  go_loopw [0, 4] (fun v t wr => ∃ k m : Nat, k ≤ 4 ∧ t = .int .i64 k ∧ m ≤ n ∧ Hid (m = n / 65536 ^ k) ∧ v = .int .u64 (m : Int) ∧ L3 w (List.replicate 10 0) (digTo4 n k) wr) (fun _ t _ => 4 - (intOf t).toNat)
  case atStart =>
    refine ⟨0, n, by omega, rfl, Nat.le_refl _, Go.Lib.hid (by simp), rfl, ((Below.refl _ _).alloc (Nat.le_refl _) _).alloc (by simp) _, by simp, ?_, ?_⟩
    · exact (Mur.hp_old (Mur.hp_a1 _ _) _).trans rfl
    · exact (Mur.hp_a2 _ _ _).trans rfl
  case round =>
    obtain ⟨k, m, hk, rfl, hm, hmk, rfl, HL⟩ := hrel
    by_cases hlt : k < 4
    · have cd := cell_n64s (i := k) HL.2.2.2 (by rw [digTo4_length _ _ (by omega)]; omega)
      have fd := Mur.free_row (i := k) HL.2.2.2
      go_wp2
      refine ⟨⟨k + 1, m / 65536, by omega, by go_num, by omega, Go.Lib.hid (by rw [hmk.out, Nat.div_div_eq_div_mul, Nat.pow_succ]), by go_num, ?_⟩, by simp [intOf]; omega⟩
      rw [digTo4_succ n k (by omega), ← hmk.out]
      exact HL.set k (m % 65536)
    · obtain rfl : k = 4 := by omega
      have hz : (n64s (digTo4 n 4)).size = 10 := by rw [n64s_size, digTo4_length _ _ (by omega)]
      have hd : digTo4 n 4 = Mur.dgs 10 n := digTo4_four n hn
      have HD := Go.Lib.hid hd; clear hd
      have HZ := Go.Lib.hid hz; clear hz
      go_wp2_with (first
        | (refine wpList_load_row rfl 79 (.tmp 3) rfl (w.heap.size + 1) rfl 79 (n64s (digTo4 n 4)) (0, 0) _ HL.2.2.2 Tryd.underlying79 rfl (by rw [HZ.out]; kernel_rfl) ?_)
        | (refine wpList_store_row rfl 79 (.tmp 2) (.tmp 15) rfl w.heap.size (n64s (digTo4 n 4)) rfl rfl 79 (n64s (List.replicate 10 0)) HL.2.2.1 (by rw [HZ.out]; kernel_rfl) (by rw [HZ.out]; rfl) (n64s_all _) ?_))
      refine bodyPost_ret (v := .agg (n64s (digTo4 n 4))) (results_cell_row rfl _ _ w.heap.size 79 (n64s (digTo4 n 4)) (0, 0) _ rfl (setRow_heap _ _ _ _ _ _ HL.2.2.1) Tryd.underlying79 rfl (by rw [HZ.out]; kernel_rfl)) rfl ⟨_, HD, digTo4_length _ _ (by omega), ?_, rfl, below_setRow HL.1 (Nat.le_refl _) _⟩
      rw [HD.out]
      exact Mur.dgs_lt 10 n
end Go.Proofs.YtljfjjofhclhiaaDoor
