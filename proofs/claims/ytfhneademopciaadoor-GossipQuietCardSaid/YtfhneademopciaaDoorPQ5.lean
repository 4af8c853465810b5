/- attest's document: eight bytes, a body, Make. bytes.Join of an attest's four parts. An attest's bytes; which comes first. An attest's bytes, or none; a length in 104 bytes. -/
import Derived.Test.YtfhneademopciaaDoorPQ4
import Derived.Test.YtfhneademopciaaDoorPQ2
namespace Go.Proofs.YtfhneademopciaaDoor
open Go.RowKit
open Mur (b8s Byt Own8 Seg Segs flat cutA attC)
set_option maxRecDepth 100000
set_option maxHeartbeats 4000000
theorem Reight_any (n : Int) (w : World) : Calls Tryd.prog 71 #[.int .i64 n] w fun e w' => ∃ q E, Hid (E = Mur.e8 (Mur.u64n n)) ∧ e = .returned (.slice (some ⟨q, 0, none⟩) 8 8) ∧ Byt w' (some ⟨q, 0, none⟩) 8 E ∧ (w.heap.size ≤ q ∧ q < w'.heap.size) ∧ Wk.Chg [] w w' := by
  refine calls_of_wp Tryd.func71 rfl ?_
  refine wp_seq ?_
  refine Wk.reg ?_
  refine Wk.rPure 0 (some 2) (.slice none 0 0) rfl rfl (by kernel_rfl) (by kernel_rfl) ?_
  refine Wk.rEnd 1 rfl ?_
  refine Wk.nxt ?_
  refine wp_seq ?_
  refine Wk.reg ?_
  refine Wk.rPure 0 (some 6) (.int .i64 n) rfl rfl (by kernel_rfl) (by kernel_rfl) ?_
  refine Wk.rPure 1 (some 7) (.int .u64 ((Mur.u64n n : Nat) : Int)) rfl rfl (by kernel_rfl) (Mur.conv_u64n 3 26 (.tmp 6) rfl (by kernel_rfl) Tryd.underlying26 .i64 n (by kernel_rfl)) ?_
  refine Wk.rPure 2 (some 3) (.int .u64 ((Mur.u64n n : Nat) : Int)) rfl rfl (by kernel_rfl) (by kernel_rfl) ?_
  refine Wk.rEnd 3 rfl ?_
  refine Wk.nxt ?_
  refine wp_seq ?_
  refine Wk.reg ?_
  refine Wk.rEx 0 (some 8) _ rfl rfl (by kernel_rfl) (Wk.new_ex (.slice (some ⟨w.heap.size, 0, none⟩) 8 8) #[.int .u8 0, .int .u8 0, .int .u8 0, .int .u8 0, .int .u8 0, .int .u8 0, .int .u8 0, .int .u8 0] 5 (by kernel_rfl)) ?_
  rintro _ W1 ⟨rfl, hb1, ch1, sz1⟩
  have zz1 := ch1.size
  refine Wk.rPure 1 (some 4) (.slice (some ⟨w.heap.size, 0, none⟩) 8 8) rfl rfl (by kernel_rfl) (by kernel_rfl) ?_
  refine Wk.rEnd 2 rfl ?_
  refine Wk.nxt ?_
  refine wp_seq ?_
  refine wp_seq ?_
  refine Wk.reg ?_
  refine Wk.rPure 0 (some 5) (.int .i64 7) rfl rfl (by kernel_rfl) (by kernel_rfl) ?_
  refine Wk.rEnd 1 rfl ?_
  refine Wk.nxt ?_
  refine wp_block ?_
  refine Wk.loopN 9 ?_
  refine Wk.rdS ?_
  refine wp_seq ?_
  refine wp_seq ?_
  refine Wk.reg ?_
  refine Wk.rPure 0 (some 9) (.int .i64 7) rfl rfl (by kernel_rfl) (by kernel_rfl) ?_
  refine Wk.rPure 1 (some 10) (.bool true) rfl rfl (by kernel_rfl) (Wk.boolT (b := decide ((7 : Int) ≥ (0 : Int))) (decide_eq_true (by decide)) (by kernel_rfl)) ?_
  refine Wk.rEnd 2 rfl ?_
  refine Wk.nxt ?_
  refine wp_cond_true (by kernel_rfl) ?_
  refine wp_skip ?_
  refine Wk.nxt ?_
  refine wp_seq ?_
  refine wp_block ?_
  refine wp_seq ?_
  refine Wk.reg ?_
  refine Wk.rPure 0 (some 13) (.slice (some ⟨w.heap.size, 0, none⟩) 8 8) rfl rfl (by kernel_rfl) (by kernel_rfl) ?_
  refine Wk.rPure 1 (some 14) (.int .i64 7) rfl rfl (by kernel_rfl) (by kernel_rfl) ?_
  refine Wk.rPure 2 (some 15) (.int .u64 ((Mur.u64n n : Nat) : Int)) rfl rfl (by kernel_rfl) (by kernel_rfl) ?_
  refine Wk.rPure 3 (some 16) (.int .u64 ((Mur.u64n n % 256 : Nat) : Int)) rfl rfl (by kernel_rfl) (Mur.rem_u64 26 26 (.tmp 15) (.const (.int .u64 256)) rfl (Mur.u64n n) 256 (by kernel_rfl) (by kernel_rfl) (by omega)) ?_
  refine Wk.rPure 4 (some 17) (.int .u8 ((Mur.u64n n % 256 : Nat) : Int)) rfl rfl (by kernel_rfl) (Mur.conv_int 26 5 (.tmp 16) rfl (by kernel_rfl) .u8 Tryd.underlying5 .u64 ((Mur.u64n n % 256 : Nat) : Int) (by kernel_rfl) (by rw [Mur.u8_mod]; omega)) ?_
  refine Wk.rPure 5 (some 18) (.pointer (some ⟨w.heap.size, 7, none⟩)) rfl rfl (by kernel_rfl) (Wk.index_sl 38 5 (.tmp 13) (.tmp 14) rfl Tryd.underlying38 1 (by kernel_rfl) w.heap.size 0 8 8 7 .i64 (by kernel_rfl) (by kernel_rfl) (by omega)) ?_
  refine Wk.rExS 6 none _ rfl rfl (by kernel_rfl) (Wk.store1 5 (.tmp 18) (.tmp 17) rfl (by kernel_rfl) w.heap.size 7 (by kernel_rfl) (.int .u8 ((Mur.u64n n % 256 : Nat) : Int)) (by kernel_rfl) rfl 5 #[.int .u8 0, .int .u8 0, .int .u8 0, .int .u8 0, .int .u8 0, .int .u8 0, .int .u8 0, .int .u8 0] hb1 (by simp)) ?_
  rintro W2 ⟨hb2, ch2⟩
  replace hb2 : W2.heap[w.heap.size]? = some (.cells #[.int .u8 0, .int .u8 0, .int .u8 0, .int .u8 0, .int .u8 0, .int .u8 0, .int .u8 0, .int .u8 ((Mur.u64n n % 256 : Nat) : Int)] 5 (0, 0)) := hb2
  have zz2 := ch2.size
  refine Wk.rEnd 7 rfl ?_
  refine Wk.nxt ?_
  refine Wk.reg ?_
  refine Wk.rPure 0 (some 19) (.int .u64 ((Mur.u64n n : Nat) : Int)) rfl rfl (by kernel_rfl) (by kernel_rfl) ?_
  refine Wk.rPure 1 (some 20) (.int .u64 ((Mur.u64n n / 256 : Nat) : Int)) rfl rfl (by kernel_rfl) (Mur.quo_u64 26 26 (.tmp 19) (.const (.int .u64 256)) rfl (Mur.u64n n) 256 (by kernel_rfl) (by kernel_rfl) (by omega) (by have := Mur.u64n_lt n; omega)) ?_
  refine Wk.rPure 2 (some 3) (.int .u64 ((Mur.u64n n / 256 : Nat) : Int)) rfl rfl (by kernel_rfl) (by kernel_rfl) ?_
  refine Wk.rEnd 3 rfl ?_
  refine Wk.inN ?_
  refine Wk.nxt ?_
  refine Wk.reg ?_
  refine Wk.rPure 0 (some 11) (.int .i64 7) rfl rfl (by kernel_rfl) (by kernel_rfl) ?_
  refine Wk.rPure 1 (some 12) (.int .i64 6) rfl rfl (by kernel_rfl) (Wk.int64 (n := 7 - 1) (z := 6) (by omega) (by omega) (by omega) (by kernel_rfl)) ?_
  refine Wk.rPure 2 (some 5) (.int .i64 6) rfl rfl (by kernel_rfl) (by kernel_rfl) ?_
  refine Wk.rEnd 3 rfl ?_
  refine Wk.nxt ?_
  refine Wk.rdS ?_
  refine wp_seq ?_
  refine wp_seq ?_
  refine Wk.reg ?_
  refine Wk.rPure 0 (some 9) (.int .i64 6) rfl rfl (by kernel_rfl) (by kernel_rfl) ?_
  refine Wk.rPure 1 (some 10) (.bool true) rfl rfl (by kernel_rfl) (Wk.boolT (b := decide ((6 : Int) ≥ (0 : Int))) (decide_eq_true (by decide)) (by kernel_rfl)) ?_
  refine Wk.rEnd 2 rfl ?_
  refine Wk.nxt ?_
  refine wp_cond_true (by kernel_rfl) ?_
  refine wp_skip ?_
  refine Wk.nxt ?_
  refine wp_seq ?_
  refine wp_block ?_
  refine wp_seq ?_
  refine Wk.reg ?_
  refine Wk.rPure 0 (some 13) (.slice (some ⟨w.heap.size, 0, none⟩) 8 8) rfl rfl (by kernel_rfl) (by kernel_rfl) ?_
  refine Wk.rPure 1 (some 14) (.int .i64 6) rfl rfl (by kernel_rfl) (by kernel_rfl) ?_
  refine Wk.rPure 2 (some 15) (.int .u64 ((Mur.u64n n / 256 : Nat) : Int)) rfl rfl (by kernel_rfl) (by kernel_rfl) ?_
  refine Wk.rPure 3 (some 16) (.int .u64 ((Mur.u64n n / 256 % 256 : Nat) : Int)) rfl rfl (by kernel_rfl) (Mur.rem_u64 26 26 (.tmp 15) (.const (.int .u64 256)) rfl (Mur.u64n n / 256) 256 (by kernel_rfl) (by kernel_rfl) (by omega)) ?_
  refine Wk.rPure 4 (some 17) (.int .u8 ((Mur.u64n n / 256 % 256 : Nat) : Int)) rfl rfl (by kernel_rfl) (Mur.conv_int 26 5 (.tmp 16) rfl (by kernel_rfl) .u8 Tryd.underlying5 .u64 ((Mur.u64n n / 256 % 256 : Nat) : Int) (by kernel_rfl) (by rw [Mur.u8_mod]; omega)) ?_
  refine Wk.rPure 5 (some 18) (.pointer (some ⟨w.heap.size, 6, none⟩)) rfl rfl (by kernel_rfl) (Wk.index_sl 38 5 (.tmp 13) (.tmp 14) rfl Tryd.underlying38 1 (by kernel_rfl) w.heap.size 0 8 8 6 .i64 (by kernel_rfl) (by kernel_rfl) (by omega)) ?_
  refine Wk.rExS 6 none _ rfl rfl (by kernel_rfl) (Wk.store1 5 (.tmp 18) (.tmp 17) rfl (by kernel_rfl) w.heap.size 6 (by kernel_rfl) (.int .u8 ((Mur.u64n n / 256 % 256 : Nat) : Int)) (by kernel_rfl) rfl 5 #[.int .u8 0, .int .u8 0, .int .u8 0, .int .u8 0, .int .u8 0, .int .u8 0, .int .u8 0, .int .u8 ((Mur.u64n n % 256 : Nat) : Int)] hb2 (by simp)) ?_
  rintro W3 ⟨hb3, ch3⟩
  replace hb3 : W3.heap[w.heap.size]? = some (.cells #[.int .u8 0, .int .u8 0, .int .u8 0, .int .u8 0, .int .u8 0, .int .u8 0, .int .u8 ((Mur.u64n n / 256 % 256 : Nat) : Int), .int .u8 ((Mur.u64n n % 256 : Nat) : Int)] 5 (0, 0)) := hb3
  have zz3 := ch3.size
  refine Wk.rEnd 7 rfl ?_
  refine Wk.nxt ?_
  refine Wk.reg ?_
  refine Wk.rPure 0 (some 19) (.int .u64 ((Mur.u64n n / 256 : Nat) : Int)) rfl rfl (by kernel_rfl) (by kernel_rfl) ?_
  refine Wk.rPure 1 (some 20) (.int .u64 ((Mur.u64n n / 256 / 256 : Nat) : Int)) rfl rfl (by kernel_rfl) (Mur.quo_u64 26 26 (.tmp 19) (.const (.int .u64 256)) rfl (Mur.u64n n / 256) 256 (by kernel_rfl) (by kernel_rfl) (by omega) (by have := Mur.u64n_lt n; omega)) ?_
  refine Wk.rPure 2 (some 3) (.int .u64 ((Mur.u64n n / 256 / 256 : Nat) : Int)) rfl rfl (by kernel_rfl) (by kernel_rfl) ?_
  refine Wk.rEnd 3 rfl ?_
  refine Wk.inN ?_
  refine Wk.nxt ?_
  refine Wk.reg ?_
  refine Wk.rPure 0 (some 11) (.int .i64 6) rfl rfl (by kernel_rfl) (by kernel_rfl) ?_
  refine Wk.rPure 1 (some 12) (.int .i64 5) rfl rfl (by kernel_rfl) (Wk.int64 (n := 6 - 1) (z := 5) (by omega) (by omega) (by omega) (by kernel_rfl)) ?_
  refine Wk.rPure 2 (some 5) (.int .i64 5) rfl rfl (by kernel_rfl) (by kernel_rfl) ?_
  refine Wk.rEnd 3 rfl ?_
  refine Wk.nxt ?_
  refine Wk.rdS ?_
  refine wp_seq ?_
  refine wp_seq ?_
  refine Wk.reg ?_
  refine Wk.rPure 0 (some 9) (.int .i64 5) rfl rfl (by kernel_rfl) (by kernel_rfl) ?_
  refine Wk.rPure 1 (some 10) (.bool true) rfl rfl (by kernel_rfl) (Wk.boolT (b := decide ((5 : Int) ≥ (0 : Int))) (decide_eq_true (by decide)) (by kernel_rfl)) ?_
  refine Wk.rEnd 2 rfl ?_
  refine Wk.nxt ?_
  refine wp_cond_true (by kernel_rfl) ?_
  refine wp_skip ?_
  refine Wk.nxt ?_
  refine wp_seq ?_
  refine wp_block ?_
  refine wp_seq ?_
  refine Wk.reg ?_
  refine Wk.rPure 0 (some 13) (.slice (some ⟨w.heap.size, 0, none⟩) 8 8) rfl rfl (by kernel_rfl) (by kernel_rfl) ?_
  refine Wk.rPure 1 (some 14) (.int .i64 5) rfl rfl (by kernel_rfl) (by kernel_rfl) ?_
  refine Wk.rPure 2 (some 15) (.int .u64 ((Mur.u64n n / 256 / 256 : Nat) : Int)) rfl rfl (by kernel_rfl) (by kernel_rfl) ?_
  refine Wk.rPure 3 (some 16) (.int .u64 ((Mur.u64n n / 256 / 256 % 256 : Nat) : Int)) rfl rfl (by kernel_rfl) (Mur.rem_u64 26 26 (.tmp 15) (.const (.int .u64 256)) rfl (Mur.u64n n / 256 / 256) 256 (by kernel_rfl) (by kernel_rfl) (by omega)) ?_
  refine Wk.rPure 4 (some 17) (.int .u8 ((Mur.u64n n / 256 / 256 % 256 : Nat) : Int)) rfl rfl (by kernel_rfl) (Mur.conv_int 26 5 (.tmp 16) rfl (by kernel_rfl) .u8 Tryd.underlying5 .u64 ((Mur.u64n n / 256 / 256 % 256 : Nat) : Int) (by kernel_rfl) (by rw [Mur.u8_mod]; omega)) ?_
  refine Wk.rPure 5 (some 18) (.pointer (some ⟨w.heap.size, 5, none⟩)) rfl rfl (by kernel_rfl) (Wk.index_sl 38 5 (.tmp 13) (.tmp 14) rfl Tryd.underlying38 1 (by kernel_rfl) w.heap.size 0 8 8 5 .i64 (by kernel_rfl) (by kernel_rfl) (by omega)) ?_
  refine Wk.rExS 6 none _ rfl rfl (by kernel_rfl) (Wk.store1 5 (.tmp 18) (.tmp 17) rfl (by kernel_rfl) w.heap.size 5 (by kernel_rfl) (.int .u8 ((Mur.u64n n / 256 / 256 % 256 : Nat) : Int)) (by kernel_rfl) rfl 5 #[.int .u8 0, .int .u8 0, .int .u8 0, .int .u8 0, .int .u8 0, .int .u8 0, .int .u8 ((Mur.u64n n / 256 % 256 : Nat) : Int), .int .u8 ((Mur.u64n n % 256 : Nat) : Int)] hb3 (by simp)) ?_
  rintro W4 ⟨hb4, ch4⟩
  replace hb4 : W4.heap[w.heap.size]? = some (.cells #[.int .u8 0, .int .u8 0, .int .u8 0, .int .u8 0, .int .u8 0, .int .u8 ((Mur.u64n n / 256 / 256 % 256 : Nat) : Int), .int .u8 ((Mur.u64n n / 256 % 256 : Nat) : Int), .int .u8 ((Mur.u64n n % 256 : Nat) : Int)] 5 (0, 0)) := hb4
  have zz4 := ch4.size
  refine Wk.rEnd 7 rfl ?_
  refine Wk.nxt ?_
  refine Wk.reg ?_
  refine Wk.rPure 0 (some 19) (.int .u64 ((Mur.u64n n / 256 / 256 : Nat) : Int)) rfl rfl (by kernel_rfl) (by kernel_rfl) ?_
  refine Wk.rPure 1 (some 20) (.int .u64 ((Mur.u64n n / 256 / 256 / 256 : Nat) : Int)) rfl rfl (by kernel_rfl) (Mur.quo_u64 26 26 (.tmp 19) (.const (.int .u64 256)) rfl (Mur.u64n n / 256 / 256) 256 (by kernel_rfl) (by kernel_rfl) (by omega) (by have := Mur.u64n_lt n; omega)) ?_
  refine Wk.rPure 2 (some 3) (.int .u64 ((Mur.u64n n / 256 / 256 / 256 : Nat) : Int)) rfl rfl (by kernel_rfl) (by kernel_rfl) ?_
  refine Wk.rEnd 3 rfl ?_
  refine Wk.inN ?_
  refine Wk.nxt ?_
  refine Wk.reg ?_
  refine Wk.rPure 0 (some 11) (.int .i64 5) rfl rfl (by kernel_rfl) (by kernel_rfl) ?_
  refine Wk.rPure 1 (some 12) (.int .i64 4) rfl rfl (by kernel_rfl) (Wk.int64 (n := 5 - 1) (z := 4) (by omega) (by omega) (by omega) (by kernel_rfl)) ?_
  refine Wk.rPure 2 (some 5) (.int .i64 4) rfl rfl (by kernel_rfl) (by kernel_rfl) ?_
  refine Wk.rEnd 3 rfl ?_
  refine Wk.nxt ?_
  refine Wk.rdS ?_
  refine wp_seq ?_
  refine wp_seq ?_
  refine Wk.reg ?_
  refine Wk.rPure 0 (some 9) (.int .i64 4) rfl rfl (by kernel_rfl) (by kernel_rfl) ?_
  refine Wk.rPure 1 (some 10) (.bool true) rfl rfl (by kernel_rfl) (Wk.boolT (b := decide ((4 : Int) ≥ (0 : Int))) (decide_eq_true (by decide)) (by kernel_rfl)) ?_
  refine Wk.rEnd 2 rfl ?_
  refine Wk.nxt ?_
  refine wp_cond_true (by kernel_rfl) ?_
  refine wp_skip ?_
  refine Wk.nxt ?_
  refine wp_seq ?_
  refine wp_block ?_
  refine wp_seq ?_
  refine Wk.reg ?_
  refine Wk.rPure 0 (some 13) (.slice (some ⟨w.heap.size, 0, none⟩) 8 8) rfl rfl (by kernel_rfl) (by kernel_rfl) ?_
  refine Wk.rPure 1 (some 14) (.int .i64 4) rfl rfl (by kernel_rfl) (by kernel_rfl) ?_
  refine Wk.rPure 2 (some 15) (.int .u64 ((Mur.u64n n / 256 / 256 / 256 : Nat) : Int)) rfl rfl (by kernel_rfl) (by kernel_rfl) ?_
  refine Wk.rPure 3 (some 16) (.int .u64 ((Mur.u64n n / 256 / 256 / 256 % 256 : Nat) : Int)) rfl rfl (by kernel_rfl) (Mur.rem_u64 26 26 (.tmp 15) (.const (.int .u64 256)) rfl (Mur.u64n n / 256 / 256 / 256) 256 (by kernel_rfl) (by kernel_rfl) (by omega)) ?_
  refine Wk.rPure 4 (some 17) (.int .u8 ((Mur.u64n n / 256 / 256 / 256 % 256 : Nat) : Int)) rfl rfl (by kernel_rfl) (Mur.conv_int 26 5 (.tmp 16) rfl (by kernel_rfl) .u8 Tryd.underlying5 .u64 ((Mur.u64n n / 256 / 256 / 256 % 256 : Nat) : Int) (by kernel_rfl) (by rw [Mur.u8_mod]; omega)) ?_
  refine Wk.rPure 5 (some 18) (.pointer (some ⟨w.heap.size, 4, none⟩)) rfl rfl (by kernel_rfl) (Wk.index_sl 38 5 (.tmp 13) (.tmp 14) rfl Tryd.underlying38 1 (by kernel_rfl) w.heap.size 0 8 8 4 .i64 (by kernel_rfl) (by kernel_rfl) (by omega)) ?_
  refine Wk.rExS 6 none _ rfl rfl (by kernel_rfl) (Wk.store1 5 (.tmp 18) (.tmp 17) rfl (by kernel_rfl) w.heap.size 4 (by kernel_rfl) (.int .u8 ((Mur.u64n n / 256 / 256 / 256 % 256 : Nat) : Int)) (by kernel_rfl) rfl 5 #[.int .u8 0, .int .u8 0, .int .u8 0, .int .u8 0, .int .u8 0, .int .u8 ((Mur.u64n n / 256 / 256 % 256 : Nat) : Int), .int .u8 ((Mur.u64n n / 256 % 256 : Nat) : Int), .int .u8 ((Mur.u64n n % 256 : Nat) : Int)] hb4 (by simp)) ?_
  rintro W5 ⟨hb5, ch5⟩
  replace hb5 : W5.heap[w.heap.size]? = some (.cells #[.int .u8 0, .int .u8 0, .int .u8 0, .int .u8 0, .int .u8 ((Mur.u64n n / 256 / 256 / 256 % 256 : Nat) : Int), .int .u8 ((Mur.u64n n / 256 / 256 % 256 : Nat) : Int), .int .u8 ((Mur.u64n n / 256 % 256 : Nat) : Int), .int .u8 ((Mur.u64n n % 256 : Nat) : Int)] 5 (0, 0)) := hb5
  have zz5 := ch5.size
  refine Wk.rEnd 7 rfl ?_
  refine Wk.nxt ?_
  refine Wk.reg ?_
  refine Wk.rPure 0 (some 19) (.int .u64 ((Mur.u64n n / 256 / 256 / 256 : Nat) : Int)) rfl rfl (by kernel_rfl) (by kernel_rfl) ?_
  refine Wk.rPure 1 (some 20) (.int .u64 ((Mur.u64n n / 256 / 256 / 256 / 256 : Nat) : Int)) rfl rfl (by kernel_rfl) (Mur.quo_u64 26 26 (.tmp 19) (.const (.int .u64 256)) rfl (Mur.u64n n / 256 / 256 / 256) 256 (by kernel_rfl) (by kernel_rfl) (by omega) (by have := Mur.u64n_lt n; omega)) ?_
  refine Wk.rPure 2 (some 3) (.int .u64 ((Mur.u64n n / 256 / 256 / 256 / 256 : Nat) : Int)) rfl rfl (by kernel_rfl) (by kernel_rfl) ?_
  refine Wk.rEnd 3 rfl ?_
  refine Wk.inN ?_
  refine Wk.nxt ?_
  refine Wk.reg ?_
  refine Wk.rPure 0 (some 11) (.int .i64 4) rfl rfl (by kernel_rfl) (by kernel_rfl) ?_
  refine Wk.rPure 1 (some 12) (.int .i64 3) rfl rfl (by kernel_rfl) (Wk.int64 (n := 4 - 1) (z := 3) (by omega) (by omega) (by omega) (by kernel_rfl)) ?_
  refine Wk.rPure 2 (some 5) (.int .i64 3) rfl rfl (by kernel_rfl) (by kernel_rfl) ?_
  refine Wk.rEnd 3 rfl ?_
  refine Wk.nxt ?_
  refine Wk.rdS ?_
  refine wp_seq ?_
  refine wp_seq ?_
  refine Wk.reg ?_
  refine Wk.rPure 0 (some 9) (.int .i64 3) rfl rfl (by kernel_rfl) (by kernel_rfl) ?_
  refine Wk.rPure 1 (some 10) (.bool true) rfl rfl (by kernel_rfl) (Wk.boolT (b := decide ((3 : Int) ≥ (0 : Int))) (decide_eq_true (by decide)) (by kernel_rfl)) ?_
  refine Wk.rEnd 2 rfl ?_
  refine Wk.nxt ?_
  refine wp_cond_true (by kernel_rfl) ?_
  refine wp_skip ?_
  refine Wk.nxt ?_
  refine wp_seq ?_
  refine wp_block ?_
  refine wp_seq ?_
  refine Wk.reg ?_
  refine Wk.rPure 0 (some 13) (.slice (some ⟨w.heap.size, 0, none⟩) 8 8) rfl rfl (by kernel_rfl) (by kernel_rfl) ?_
  refine Wk.rPure 1 (some 14) (.int .i64 3) rfl rfl (by kernel_rfl) (by kernel_rfl) ?_
  refine Wk.rPure 2 (some 15) (.int .u64 ((Mur.u64n n / 256 / 256 / 256 / 256 : Nat) : Int)) rfl rfl (by kernel_rfl) (by kernel_rfl) ?_
  refine Wk.rPure 3 (some 16) (.int .u64 ((Mur.u64n n / 256 / 256 / 256 / 256 % 256 : Nat) : Int)) rfl rfl (by kernel_rfl) (Mur.rem_u64 26 26 (.tmp 15) (.const (.int .u64 256)) rfl (Mur.u64n n / 256 / 256 / 256 / 256) 256 (by kernel_rfl) (by kernel_rfl) (by omega)) ?_
  refine Wk.rPure 4 (some 17) (.int .u8 ((Mur.u64n n / 256 / 256 / 256 / 256 % 256 : Nat) : Int)) rfl rfl (by kernel_rfl) (Mur.conv_int 26 5 (.tmp 16) rfl (by kernel_rfl) .u8 Tryd.underlying5 .u64 ((Mur.u64n n / 256 / 256 / 256 / 256 % 256 : Nat) : Int) (by kernel_rfl) (by rw [Mur.u8_mod]; omega)) ?_
  refine Wk.rPure 5 (some 18) (.pointer (some ⟨w.heap.size, 3, none⟩)) rfl rfl (by kernel_rfl) (Wk.index_sl 38 5 (.tmp 13) (.tmp 14) rfl Tryd.underlying38 1 (by kernel_rfl) w.heap.size 0 8 8 3 .i64 (by kernel_rfl) (by kernel_rfl) (by omega)) ?_
  refine Wk.rExS 6 none _ rfl rfl (by kernel_rfl) (Wk.store1 5 (.tmp 18) (.tmp 17) rfl (by kernel_rfl) w.heap.size 3 (by kernel_rfl) (.int .u8 ((Mur.u64n n / 256 / 256 / 256 / 256 % 256 : Nat) : Int)) (by kernel_rfl) rfl 5 #[.int .u8 0, .int .u8 0, .int .u8 0, .int .u8 0, .int .u8 ((Mur.u64n n / 256 / 256 / 256 % 256 : Nat) : Int), .int .u8 ((Mur.u64n n / 256 / 256 % 256 : Nat) : Int), .int .u8 ((Mur.u64n n / 256 % 256 : Nat) : Int), .int .u8 ((Mur.u64n n % 256 : Nat) : Int)] hb5 (by simp)) ?_
  rintro W6 ⟨hb6, ch6⟩
  replace hb6 : W6.heap[w.heap.size]? = some (.cells #[.int .u8 0, .int .u8 0, .int .u8 0, .int .u8 ((Mur.u64n n / 256 / 256 / 256 / 256 % 256 : Nat) : Int), .int .u8 ((Mur.u64n n / 256 / 256 / 256 % 256 : Nat) : Int), .int .u8 ((Mur.u64n n / 256 / 256 % 256 : Nat) : Int), .int .u8 ((Mur.u64n n / 256 % 256 : Nat) : Int), .int .u8 ((Mur.u64n n % 256 : Nat) : Int)] 5 (0, 0)) := hb6
  have zz6 := ch6.size
  refine Wk.rEnd 7 rfl ?_
  refine Wk.nxt ?_
  refine Wk.reg ?_
  refine Wk.rPure 0 (some 19) (.int .u64 ((Mur.u64n n / 256 / 256 / 256 / 256 : Nat) : Int)) rfl rfl (by kernel_rfl) (by kernel_rfl) ?_
  refine Wk.rPure 1 (some 20) (.int .u64 ((Mur.u64n n / 256 / 256 / 256 / 256 / 256 : Nat) : Int)) rfl rfl (by kernel_rfl) (Mur.quo_u64 26 26 (.tmp 19) (.const (.int .u64 256)) rfl (Mur.u64n n / 256 / 256 / 256 / 256) 256 (by kernel_rfl) (by kernel_rfl) (by omega) (by have := Mur.u64n_lt n; omega)) ?_
  refine Wk.rPure 2 (some 3) (.int .u64 ((Mur.u64n n / 256 / 256 / 256 / 256 / 256 : Nat) : Int)) rfl rfl (by kernel_rfl) (by kernel_rfl) ?_
  refine Wk.rEnd 3 rfl ?_
  refine Wk.inN ?_
  refine Wk.nxt ?_
  refine Wk.reg ?_
  refine Wk.rPure 0 (some 11) (.int .i64 3) rfl rfl (by kernel_rfl) (by kernel_rfl) ?_
  refine Wk.rPure 1 (some 12) (.int .i64 2) rfl rfl (by kernel_rfl) (Wk.int64 (n := 3 - 1) (z := 2) (by omega) (by omega) (by omega) (by kernel_rfl)) ?_
  refine Wk.rPure 2 (some 5) (.int .i64 2) rfl rfl (by kernel_rfl) (by kernel_rfl) ?_
  refine Wk.rEnd 3 rfl ?_
  refine Wk.nxt ?_
  refine Wk.rdS ?_
  refine wp_seq ?_
  refine wp_seq ?_
  refine Wk.reg ?_
  refine Wk.rPure 0 (some 9) (.int .i64 2) rfl rfl (by kernel_rfl) (by kernel_rfl) ?_
  refine Wk.rPure 1 (some 10) (.bool true) rfl rfl (by kernel_rfl) (Wk.boolT (b := decide ((2 : Int) ≥ (0 : Int))) (decide_eq_true (by decide)) (by kernel_rfl)) ?_
  refine Wk.rEnd 2 rfl ?_
  refine Wk.nxt ?_
  refine wp_cond_true (by kernel_rfl) ?_
  refine wp_skip ?_
  refine Wk.nxt ?_
  refine wp_seq ?_
  refine wp_block ?_
  refine wp_seq ?_
  refine Wk.reg ?_
  refine Wk.rPure 0 (some 13) (.slice (some ⟨w.heap.size, 0, none⟩) 8 8) rfl rfl (by kernel_rfl) (by kernel_rfl) ?_
  refine Wk.rPure 1 (some 14) (.int .i64 2) rfl rfl (by kernel_rfl) (by kernel_rfl) ?_
  refine Wk.rPure 2 (some 15) (.int .u64 ((Mur.u64n n / 256 / 256 / 256 / 256 / 256 : Nat) : Int)) rfl rfl (by kernel_rfl) (by kernel_rfl) ?_
  refine Wk.rPure 3 (some 16) (.int .u64 ((Mur.u64n n / 256 / 256 / 256 / 256 / 256 % 256 : Nat) : Int)) rfl rfl (by kernel_rfl) (Mur.rem_u64 26 26 (.tmp 15) (.const (.int .u64 256)) rfl (Mur.u64n n / 256 / 256 / 256 / 256 / 256) 256 (by kernel_rfl) (by kernel_rfl) (by omega)) ?_
  refine Wk.rPure 4 (some 17) (.int .u8 ((Mur.u64n n / 256 / 256 / 256 / 256 / 256 % 256 : Nat) : Int)) rfl rfl (by kernel_rfl) (Mur.conv_int 26 5 (.tmp 16) rfl (by kernel_rfl) .u8 Tryd.underlying5 .u64 ((Mur.u64n n / 256 / 256 / 256 / 256 / 256 % 256 : Nat) : Int) (by kernel_rfl) (by rw [Mur.u8_mod]; omega)) ?_
  refine Wk.rPure 5 (some 18) (.pointer (some ⟨w.heap.size, 2, none⟩)) rfl rfl (by kernel_rfl) (Wk.index_sl 38 5 (.tmp 13) (.tmp 14) rfl Tryd.underlying38 1 (by kernel_rfl) w.heap.size 0 8 8 2 .i64 (by kernel_rfl) (by kernel_rfl) (by omega)) ?_
  refine Wk.rExS 6 none _ rfl rfl (by kernel_rfl) (Wk.store1 5 (.tmp 18) (.tmp 17) rfl (by kernel_rfl) w.heap.size 2 (by kernel_rfl) (.int .u8 ((Mur.u64n n / 256 / 256 / 256 / 256 / 256 % 256 : Nat) : Int)) (by kernel_rfl) rfl 5 #[.int .u8 0, .int .u8 0, .int .u8 0, .int .u8 ((Mur.u64n n / 256 / 256 / 256 / 256 % 256 : Nat) : Int), .int .u8 ((Mur.u64n n / 256 / 256 / 256 % 256 : Nat) : Int), .int .u8 ((Mur.u64n n / 256 / 256 % 256 : Nat) : Int), .int .u8 ((Mur.u64n n / 256 % 256 : Nat) : Int), .int .u8 ((Mur.u64n n % 256 : Nat) : Int)] hb6 (by simp)) ?_
  rintro W7 ⟨hb7, ch7⟩
  replace hb7 : W7.heap[w.heap.size]? = some (.cells #[.int .u8 0, .int .u8 0, .int .u8 ((Mur.u64n n / 256 / 256 / 256 / 256 / 256 % 256 : Nat) : Int), .int .u8 ((Mur.u64n n / 256 / 256 / 256 / 256 % 256 : Nat) : Int), .int .u8 ((Mur.u64n n / 256 / 256 / 256 % 256 : Nat) : Int), .int .u8 ((Mur.u64n n / 256 / 256 % 256 : Nat) : Int), .int .u8 ((Mur.u64n n / 256 % 256 : Nat) : Int), .int .u8 ((Mur.u64n n % 256 : Nat) : Int)] 5 (0, 0)) := hb7
  have zz7 := ch7.size
  refine Wk.rEnd 7 rfl ?_
  refine Wk.nxt ?_
  refine Wk.reg ?_
  refine Wk.rPure 0 (some 19) (.int .u64 ((Mur.u64n n / 256 / 256 / 256 / 256 / 256 : Nat) : Int)) rfl rfl (by kernel_rfl) (by kernel_rfl) ?_
  refine Wk.rPure 1 (some 20) (.int .u64 ((Mur.u64n n / 256 / 256 / 256 / 256 / 256 / 256 : Nat) : Int)) rfl rfl (by kernel_rfl) (Mur.quo_u64 26 26 (.tmp 19) (.const (.int .u64 256)) rfl (Mur.u64n n / 256 / 256 / 256 / 256 / 256) 256 (by kernel_rfl) (by kernel_rfl) (by omega) (by have := Mur.u64n_lt n; omega)) ?_
  refine Wk.rPure 2 (some 3) (.int .u64 ((Mur.u64n n / 256 / 256 / 256 / 256 / 256 / 256 : Nat) : Int)) rfl rfl (by kernel_rfl) (by kernel_rfl) ?_
  refine Wk.rEnd 3 rfl ?_
  refine Wk.inN ?_
  refine Wk.nxt ?_
  refine Wk.reg ?_
  refine Wk.rPure 0 (some 11) (.int .i64 2) rfl rfl (by kernel_rfl) (by kernel_rfl) ?_
  refine Wk.rPure 1 (some 12) (.int .i64 1) rfl rfl (by kernel_rfl) (Wk.int64 (n := 2 - 1) (z := 1) (by omega) (by omega) (by omega) (by kernel_rfl)) ?_
  refine Wk.rPure 2 (some 5) (.int .i64 1) rfl rfl (by kernel_rfl) (by kernel_rfl) ?_
  refine Wk.rEnd 3 rfl ?_
  refine Wk.nxt ?_
  refine Wk.rdS ?_
  refine wp_seq ?_
  refine wp_seq ?_
  refine Wk.reg ?_
  refine Wk.rPure 0 (some 9) (.int .i64 1) rfl rfl (by kernel_rfl) (by kernel_rfl) ?_
  refine Wk.rPure 1 (some 10) (.bool true) rfl rfl (by kernel_rfl) (Wk.boolT (b := decide ((1 : Int) ≥ (0 : Int))) (decide_eq_true (by decide)) (by kernel_rfl)) ?_
  refine Wk.rEnd 2 rfl ?_
  refine Wk.nxt ?_
  refine wp_cond_true (by kernel_rfl) ?_
  refine wp_skip ?_
  refine Wk.nxt ?_
  refine wp_seq ?_
  refine wp_block ?_
  refine wp_seq ?_
  refine Wk.reg ?_
  refine Wk.rPure 0 (some 13) (.slice (some ⟨w.heap.size, 0, none⟩) 8 8) rfl rfl (by kernel_rfl) (by kernel_rfl) ?_
  refine Wk.rPure 1 (some 14) (.int .i64 1) rfl rfl (by kernel_rfl) (by kernel_rfl) ?_
  refine Wk.rPure 2 (some 15) (.int .u64 ((Mur.u64n n / 256 / 256 / 256 / 256 / 256 / 256 : Nat) : Int)) rfl rfl (by kernel_rfl) (by kernel_rfl) ?_
  refine Wk.rPure 3 (some 16) (.int .u64 ((Mur.u64n n / 256 / 256 / 256 / 256 / 256 / 256 % 256 : Nat) : Int)) rfl rfl (by kernel_rfl) (Mur.rem_u64 26 26 (.tmp 15) (.const (.int .u64 256)) rfl (Mur.u64n n / 256 / 256 / 256 / 256 / 256 / 256) 256 (by kernel_rfl) (by kernel_rfl) (by omega)) ?_
  refine Wk.rPure 4 (some 17) (.int .u8 ((Mur.u64n n / 256 / 256 / 256 / 256 / 256 / 256 % 256 : Nat) : Int)) rfl rfl (by kernel_rfl) (Mur.conv_int 26 5 (.tmp 16) rfl (by kernel_rfl) .u8 Tryd.underlying5 .u64 ((Mur.u64n n / 256 / 256 / 256 / 256 / 256 / 256 % 256 : Nat) : Int) (by kernel_rfl) (by rw [Mur.u8_mod]; omega)) ?_
  refine Wk.rPure 5 (some 18) (.pointer (some ⟨w.heap.size, 1, none⟩)) rfl rfl (by kernel_rfl) (Wk.index_sl 38 5 (.tmp 13) (.tmp 14) rfl Tryd.underlying38 1 (by kernel_rfl) w.heap.size 0 8 8 1 .i64 (by kernel_rfl) (by kernel_rfl) (by omega)) ?_
  refine Wk.rExS 6 none _ rfl rfl (by kernel_rfl) (Wk.store1 5 (.tmp 18) (.tmp 17) rfl (by kernel_rfl) w.heap.size 1 (by kernel_rfl) (.int .u8 ((Mur.u64n n / 256 / 256 / 256 / 256 / 256 / 256 % 256 : Nat) : Int)) (by kernel_rfl) rfl 5 #[.int .u8 0, .int .u8 0, .int .u8 ((Mur.u64n n / 256 / 256 / 256 / 256 / 256 % 256 : Nat) : Int), .int .u8 ((Mur.u64n n / 256 / 256 / 256 / 256 % 256 : Nat) : Int), .int .u8 ((Mur.u64n n / 256 / 256 / 256 % 256 : Nat) : Int), .int .u8 ((Mur.u64n n / 256 / 256 % 256 : Nat) : Int), .int .u8 ((Mur.u64n n / 256 % 256 : Nat) : Int), .int .u8 ((Mur.u64n n % 256 : Nat) : Int)] hb7 (by simp)) ?_
  rintro W8 ⟨hb8, ch8⟩
  replace hb8 : W8.heap[w.heap.size]? = some (.cells #[.int .u8 0, .int .u8 ((Mur.u64n n / 256 / 256 / 256 / 256 / 256 / 256 % 256 : Nat) : Int), .int .u8 ((Mur.u64n n / 256 / 256 / 256 / 256 / 256 % 256 : Nat) : Int), .int .u8 ((Mur.u64n n / 256 / 256 / 256 / 256 % 256 : Nat) : Int), .int .u8 ((Mur.u64n n / 256 / 256 / 256 % 256 : Nat) : Int), .int .u8 ((Mur.u64n n / 256 / 256 % 256 : Nat) : Int), .int .u8 ((Mur.u64n n / 256 % 256 : Nat) : Int), .int .u8 ((Mur.u64n n % 256 : Nat) : Int)] 5 (0, 0)) := hb8
  have zz8 := ch8.size
  refine Wk.rEnd 7 rfl ?_
  refine Wk.nxt ?_
  refine Wk.reg ?_
  refine Wk.rPure 0 (some 19) (.int .u64 ((Mur.u64n n / 256 / 256 / 256 / 256 / 256 / 256 : Nat) : Int)) rfl rfl (by kernel_rfl) (by kernel_rfl) ?_
  refine Wk.rPure 1 (some 20) (.int .u64 ((Mur.u64n n / 256 / 256 / 256 / 256 / 256 / 256 / 256 : Nat) : Int)) rfl rfl (by kernel_rfl) (Mur.quo_u64 26 26 (.tmp 19) (.const (.int .u64 256)) rfl (Mur.u64n n / 256 / 256 / 256 / 256 / 256 / 256) 256 (by kernel_rfl) (by kernel_rfl) (by omega) (by have := Mur.u64n_lt n; omega)) ?_
  refine Wk.rPure 2 (some 3) (.int .u64 ((Mur.u64n n / 256 / 256 / 256 / 256 / 256 / 256 / 256 : Nat) : Int)) rfl rfl (by kernel_rfl) (by kernel_rfl) ?_
  refine Wk.rEnd 3 rfl ?_
  refine Wk.inN ?_
  refine Wk.nxt ?_
  refine Wk.reg ?_
  refine Wk.rPure 0 (some 11) (.int .i64 1) rfl rfl (by kernel_rfl) (by kernel_rfl) ?_
  refine Wk.rPure 1 (some 12) (.int .i64 0) rfl rfl (by kernel_rfl) (Wk.int64 (n := 1 - 1) (z := 0) (by omega) (by omega) (by omega) (by kernel_rfl)) ?_
  refine Wk.rPure 2 (some 5) (.int .i64 0) rfl rfl (by kernel_rfl) (by kernel_rfl) ?_
  refine Wk.rEnd 3 rfl ?_
  refine Wk.nxt ?_
  refine Wk.rdS ?_
  refine wp_seq ?_
  refine wp_seq ?_
  refine Wk.reg ?_
  refine Wk.rPure 0 (some 9) (.int .i64 0) rfl rfl (by kernel_rfl) (by kernel_rfl) ?_
  refine Wk.rPure 1 (some 10) (.bool true) rfl rfl (by kernel_rfl) (Wk.boolT (b := decide ((0 : Int) ≥ (0 : Int))) (decide_eq_true (by decide)) (by kernel_rfl)) ?_
  refine Wk.rEnd 2 rfl ?_
  refine Wk.nxt ?_
  refine wp_cond_true (by kernel_rfl) ?_
  refine wp_skip ?_
  refine Wk.nxt ?_
  refine wp_seq ?_
  refine wp_block ?_
  refine wp_seq ?_
  refine Wk.reg ?_
  refine Wk.rPure 0 (some 13) (.slice (some ⟨w.heap.size, 0, none⟩) 8 8) rfl rfl (by kernel_rfl) (by kernel_rfl) ?_
  refine Wk.rPure 1 (some 14) (.int .i64 0) rfl rfl (by kernel_rfl) (by kernel_rfl) ?_
  refine Wk.rPure 2 (some 15) (.int .u64 ((Mur.u64n n / 256 / 256 / 256 / 256 / 256 / 256 / 256 : Nat) : Int)) rfl rfl (by kernel_rfl) (by kernel_rfl) ?_
  refine Wk.rPure 3 (some 16) (.int .u64 ((Mur.u64n n / 256 / 256 / 256 / 256 / 256 / 256 / 256 % 256 : Nat) : Int)) rfl rfl (by kernel_rfl) (Mur.rem_u64 26 26 (.tmp 15) (.const (.int .u64 256)) rfl (Mur.u64n n / 256 / 256 / 256 / 256 / 256 / 256 / 256) 256 (by kernel_rfl) (by kernel_rfl) (by omega)) ?_
  refine Wk.rPure 4 (some 17) (.int .u8 ((Mur.u64n n / 256 / 256 / 256 / 256 / 256 / 256 / 256 % 256 : Nat) : Int)) rfl rfl (by kernel_rfl) (Mur.conv_int 26 5 (.tmp 16) rfl (by kernel_rfl) .u8 Tryd.underlying5 .u64 ((Mur.u64n n / 256 / 256 / 256 / 256 / 256 / 256 / 256 % 256 : Nat) : Int) (by kernel_rfl) (by rw [Mur.u8_mod]; omega)) ?_
  refine Wk.rPure 5 (some 18) (.pointer (some ⟨w.heap.size, 0, none⟩)) rfl rfl (by kernel_rfl) (Wk.index_sl 38 5 (.tmp 13) (.tmp 14) rfl Tryd.underlying38 1 (by kernel_rfl) w.heap.size 0 8 8 0 .i64 (by kernel_rfl) (by kernel_rfl) (by omega)) ?_
  refine Wk.rExS 6 none _ rfl rfl (by kernel_rfl) (Wk.store1 5 (.tmp 18) (.tmp 17) rfl (by kernel_rfl) w.heap.size 0 (by kernel_rfl) (.int .u8 ((Mur.u64n n / 256 / 256 / 256 / 256 / 256 / 256 / 256 % 256 : Nat) : Int)) (by kernel_rfl) rfl 5 #[.int .u8 0, .int .u8 ((Mur.u64n n / 256 / 256 / 256 / 256 / 256 / 256 % 256 : Nat) : Int), .int .u8 ((Mur.u64n n / 256 / 256 / 256 / 256 / 256 % 256 : Nat) : Int), .int .u8 ((Mur.u64n n / 256 / 256 / 256 / 256 % 256 : Nat) : Int), .int .u8 ((Mur.u64n n / 256 / 256 / 256 % 256 : Nat) : Int), .int .u8 ((Mur.u64n n / 256 / 256 % 256 : Nat) : Int), .int .u8 ((Mur.u64n n / 256 % 256 : Nat) : Int), .int .u8 ((Mur.u64n n % 256 : Nat) : Int)] hb8 (by simp)) ?_
  rintro W9 ⟨hb9, ch9⟩
  replace hb9 : W9.heap[w.heap.size]? = some (.cells #[.int .u8 ((Mur.u64n n / 256 / 256 / 256 / 256 / 256 / 256 / 256 % 256 : Nat) : Int), .int .u8 ((Mur.u64n n / 256 / 256 / 256 / 256 / 256 / 256 % 256 : Nat) : Int), .int .u8 ((Mur.u64n n / 256 / 256 / 256 / 256 / 256 % 256 : Nat) : Int), .int .u8 ((Mur.u64n n / 256 / 256 / 256 / 256 % 256 : Nat) : Int), .int .u8 ((Mur.u64n n / 256 / 256 / 256 % 256 : Nat) : Int), .int .u8 ((Mur.u64n n / 256 / 256 % 256 : Nat) : Int), .int .u8 ((Mur.u64n n / 256 % 256 : Nat) : Int), .int .u8 ((Mur.u64n n % 256 : Nat) : Int)] 5 (0, 0)) := hb9
  have zz9 := ch9.size
  refine Wk.rEnd 7 rfl ?_
  refine Wk.nxt ?_
  refine Wk.reg ?_
  refine Wk.rPure 0 (some 19) (.int .u64 ((Mur.u64n n / 256 / 256 / 256 / 256 / 256 / 256 / 256 : Nat) : Int)) rfl rfl (by kernel_rfl) (by kernel_rfl) ?_
  refine Wk.rPure 1 (some 20) (.int .u64 ((Mur.u64n n / 256 / 256 / 256 / 256 / 256 / 256 / 256 / 256 : Nat) : Int)) rfl rfl (by kernel_rfl) (Mur.quo_u64 26 26 (.tmp 19) (.const (.int .u64 256)) rfl (Mur.u64n n / 256 / 256 / 256 / 256 / 256 / 256 / 256) 256 (by kernel_rfl) (by kernel_rfl) (by omega) (by have := Mur.u64n_lt n; omega)) ?_
  refine Wk.rPure 2 (some 3) (.int .u64 ((Mur.u64n n / 256 / 256 / 256 / 256 / 256 / 256 / 256 / 256 : Nat) : Int)) rfl rfl (by kernel_rfl) (by kernel_rfl) ?_
  refine Wk.rEnd 3 rfl ?_
  refine Wk.inN ?_
  refine Wk.nxt ?_
  refine Wk.reg ?_
  refine Wk.rPure 0 (some 11) (.int .i64 0) rfl rfl (by kernel_rfl) (by kernel_rfl) ?_
  refine Wk.rPure 1 (some 12) (.int .i64 (-1)) rfl rfl (by kernel_rfl) (Wk.int64 (n := 0 - 1) (z := -1) (by omega) (by omega) (by omega) (by kernel_rfl)) ?_
  refine Wk.rPure 2 (some 5) (.int .i64 (-1)) rfl rfl (by kernel_rfl) (by kernel_rfl) ?_
  refine Wk.rEnd 3 rfl ?_
  refine Wk.nxt ?_
  refine Wk.rdS ?_
  refine wp_seq ?_
  refine wp_seq ?_
  refine Wk.reg ?_
  refine Wk.rPure 0 (some 9) (.int .i64 (-1)) rfl rfl (by kernel_rfl) (by kernel_rfl) ?_
  refine Wk.rPure 1 (some 10) (.bool false) rfl rfl (by kernel_rfl) (Wk.boolF (b := decide ((-1 : Int) ≥ (0 : Int))) (decide_eq_false (by decide)) (by kernel_rfl)) ?_
  refine Wk.rEnd 2 rfl ?_
  refine Wk.nxt ?_
  refine wp_cond_false (by kernel_rfl) ?_
  refine wp_exit ?_
  refine Wk.thX ?_
  refine Wk.thX ?_
  refine Wk.inX ?_
  refine Wk.nxt ?_
  refine wp_seq ?_
  refine Wk.reg ?_
  refine Wk.rPure 0 (some 21) (.slice (some ⟨w.heap.size, 0, none⟩) 8 8) rfl rfl (by kernel_rfl) (by kernel_rfl) ?_
  refine Wk.rPure 1 (some 2) (.slice (some ⟨w.heap.size, 0, none⟩) 8 8) rfl rfl (by kernel_rfl) (by kernel_rfl) ?_
  refine Wk.rEnd 2 rfl ?_
  refine Wk.nxt ?_
  refine wp_ret ?_
  have hfin := hb9
  rw [Mur.e8_quo] at hfin
  have kk1 : Wk.Chg [] w W1 := Wk.Chg.step ((Wk.Chg.refl _).more (by simp)) ch1 trivial
  have kk2 := Wk.Chg.step kk1 ch2 ⟨.inr (by omega), trivial⟩
  have kk3 := Wk.Chg.step kk2 ch3 ⟨.inr (by omega), trivial⟩
  have kk4 := Wk.Chg.step kk3 ch4 ⟨.inr (by omega), trivial⟩
  have kk5 := Wk.Chg.step kk4 ch5 ⟨.inr (by omega), trivial⟩
  have kk6 := Wk.Chg.step kk5 ch6 ⟨.inr (by omega), trivial⟩
  have kk7 := Wk.Chg.step kk6 ch7 ⟨.inr (by omega), trivial⟩
  have kk8 := Wk.Chg.step kk7 ch8 ⟨.inr (by omega), trivial⟩
  have kk9 := Wk.Chg.step kk8 ch9 ⟨.inr (by omega), trivial⟩
  refine Wk.ret (.slice (some ⟨w.heap.size, 0, none⟩) 8 8) rfl (by kernel_rfl) ?_
  exact ⟨w.heap.size, _, Go.Lib.hid rfl, rfl, Mur.byt_blk _ (Mur.e8_length _) hfin, ⟨by omega, by omega⟩, kk9⟩
end Go.Proofs.YtfhneademopciaaDoor
namespace Go.Proofs.YtfhneademopciaaDoor
open Go.RowKit
open Mur (b8s Byt Own8 Seg Segs flat cutA attC)
set_option maxRecDepth 100000
set_option maxHeartbeats 4000000
theorem Join4_any (gp : Nat) (T : TypeId) (fr : Nat × Nat) (A1 A2 A3 A4 : Option Addr) (c1 c2 c3 c4 : Nat) (k r E t : List UInt8) (w : World) (hp : w.heap[gp]? = some (.cells #[.slice A1 32 c1, .slice A2 32 c2, .slice A3 8 c3, .slice A4 32 c4] T fr)) (hy1 : Byt w A1 32 k) (hy2 : Byt w A2 32 r) (hy3 : Byt w A3 8 E) (hy4 : Byt w A4 32 t) : Calls Tryd.prog 81 #[.slice (some ⟨gp, 0, none⟩) 4 4, .slice none 0 0] w fun e w' => ∃ q, e = .returned (.slice (some ⟨q, 0, none⟩) 104 104) ∧ Byt w' (some ⟨q, 0, none⟩) 104 (((k ++ r) ++ E) ++ t) ∧ (w.heap.size ≤ q ∧ q < w'.heap.size) ∧ Wk.Chg [] w w' := by
  have hgp := (Array.getElem?_eq_some_iff.1 hp).1
  refine calls_of_wp Tryd.func81 rfl ?_
  refine wp_seq ?_
  refine Wk.reg ?_
  refine Wk.rPure 0 (some 4) (.slice none 0 0) rfl rfl (by kernel_rfl) (by kernel_rfl) ?_
  refine Wk.rEnd 1 rfl ?_
  refine Wk.nxt ?_
  refine wp_seq ?_
  refine wp_seq ?_
  refine Wk.reg ?_
  refine Wk.rPure 0 (some 12) (.slice (some ⟨gp, 0, none⟩) 4 4) rfl rfl (by kernel_rfl) (by kernel_rfl) ?_
  refine Wk.rPure 1 (some 13) (.int .i64 4) rfl rfl (by kernel_rfl) (by kernel_rfl) ?_
  refine Wk.rPure 2 (some 14) (.bool false) rfl rfl (by kernel_rfl) (Wk.boolF (b := ((4 : Int) == (0 : Int))) (beq_eq_false_iff_ne.2 (by decide)) (by kernel_rfl)) ?_
  refine Wk.rEnd 3 rfl ?_
  refine Wk.nxt ?_
  refine wp_cond_false (by kernel_rfl) ?_
  refine wp_skip ?_
  refine Wk.nxt ?_
  refine wp_seq ?_
  refine wp_seq ?_
  refine Wk.reg ?_
  refine Wk.rPure 0 (some 16) (.slice (some ⟨gp, 0, none⟩) 4 4) rfl rfl (by kernel_rfl) (by kernel_rfl) ?_
  refine Wk.rPure 1 (some 17) (.int .i64 4) rfl rfl (by kernel_rfl) (by kernel_rfl) ?_
  refine Wk.rPure 2 (some 18) (.bool false) rfl rfl (by kernel_rfl) (Wk.boolF (b := ((4 : Int) == (1 : Int))) (beq_eq_false_iff_ne.2 (by decide)) (by kernel_rfl)) ?_
  refine Wk.rEnd 3 rfl ?_
  refine Wk.nxt ?_
  refine wp_cond_false (by kernel_rfl) ?_
  refine wp_skip ?_
  refine Wk.nxt ?_
  refine wp_seq ?_
  refine Wk.reg ?_
  refine Wk.rPure 0 (some 5) (.int .i64 0) rfl rfl (by kernel_rfl) (by kernel_rfl) ?_
  refine Wk.rEnd 1 rfl ?_
  refine Wk.nxt ?_
  refine wp_seq ?_
  refine wp_seq ?_
  refine Wk.reg ?_
  refine Wk.rPure 0 (some 23) (.slice none 0 0) rfl rfl (by kernel_rfl) (by kernel_rfl) ?_
  refine Wk.rPure 1 (some 24) (.int .i64 0) rfl rfl (by kernel_rfl) (by kernel_rfl) ?_
  refine Wk.rPure 2 (some 25) (.bool false) rfl rfl (by kernel_rfl) (Wk.boolF (b := decide ((0 : Int) > (0 : Int))) (decide_eq_false (by decide)) (by kernel_rfl)) ?_
  refine Wk.rEnd 3 rfl ?_
  refine Wk.nxt ?_
  refine wp_cond_false (by kernel_rfl) ?_
  refine wp_skip ?_
  refine Wk.nxt ?_
  refine wp_seq ?_
  refine wp_seq ?_
  refine Wk.reg ?_
  refine Wk.rPure 0 (some 42) (.slice (some ⟨gp, 0, none⟩) 4 4) rfl rfl (by kernel_rfl) (by kernel_rfl) ?_
  refine Wk.rPure 1 (some 43) (.int .i64 4) rfl rfl (by kernel_rfl) (by kernel_rfl) ?_
  refine Wk.rPure 2 (some 44) (.int .i64 0) rfl rfl (by kernel_rfl) (by kernel_rfl) ?_
  refine Wk.rEnd 3 rfl ?_
  refine Wk.nxt ?_
  refine wp_block ?_
  refine Wk.loopN 5 ?_
  refine Wk.rdS ?_
  refine wp_seq ?_
  refine Wk.reg ?_
  refine Wk.rPure 0 (some 45) (.bool true) rfl rfl (by kernel_rfl) (Wk.boolT (b := decide ((0 : Int) < (4 : Int))) (decide_eq_true (by decide)) (by kernel_rfl)) ?_
  refine Wk.rEnd 1 rfl ?_
  refine Wk.nxt ?_
  refine wp_seq ?_
  refine wp_cond_true (by kernel_rfl) ?_
  refine wp_skip ?_
  refine Wk.nxt ?_
  refine wp_seq ?_
  refine wp_block ?_
  refine wp_seq ?_
  refine Wk.reg ?_
  refine Wk.rPure 0 (some 46) (.pointer (some ⟨gp, 0, none⟩)) rfl rfl (by kernel_rfl) (Wk.index_sl 83 38 (.tmp 42) (.tmp 44) rfl Tryd.underlying83 1 (by kernel_rfl) gp 0 4 4 0 .i64 (by kernel_rfl) (by kernel_rfl) (by omega)) ?_
  refine Wk.rPure 1 (some 47) (.slice A1 32 c1) rfl rfl (by kernel_rfl) (Wk.load1 38 (.tmp 46) rfl (by kernel_rfl) ⟨gp, 0, none⟩ (by kernel_rfl) (.slice A1 32 c1) ((cell_of_row _ _ 0 _ _ _ hp).trans rfl)) ?_
  refine Wk.rPure 2 (some 7) (.slice A1 32 c1) rfl rfl (by kernel_rfl) (by kernel_rfl) ?_
  refine Wk.rEnd 3 rfl ?_
  refine Wk.nxt ?_
  refine wp_seq ?_
  refine wp_seq ?_
  refine Wk.reg ?_
  refine Wk.rPure 0 (some 48) (.slice A1 32 c1) rfl rfl (by kernel_rfl) (by kernel_rfl) ?_
  refine Wk.rPure 1 (some 49) (.int .i64 32) rfl rfl (by kernel_rfl) (by kernel_rfl) ?_
  refine Wk.rPure 2 (some 50) (.int .i64 0) rfl rfl (by kernel_rfl) (by kernel_rfl) ?_
  refine Wk.rPure 3 (some 51) (.int .i64 9223372036854775807) rfl rfl (by kernel_rfl) (Wk.int64 (n := 9223372036854775807 - 0) (z := 9223372036854775807) (by omega) (by omega) (by omega) (by kernel_rfl)) ?_
  refine Wk.rPure 4 (some 52) (.bool false) rfl rfl (by kernel_rfl) (Wk.boolF (b := decide ((32 : Int) > (9223372036854775807 : Int))) (decide_eq_false (by decide)) (by kernel_rfl)) ?_
  refine Wk.rEnd 5 rfl ?_
  refine Wk.nxt ?_
  refine wp_cond_false (by kernel_rfl) ?_
  refine wp_skip ?_
  refine Wk.nxt ?_
  refine Wk.reg ?_
  refine Wk.rPure 0 (some 54) (.int .i64 0) rfl rfl (by kernel_rfl) (by kernel_rfl) ?_
  refine Wk.rPure 1 (some 55) (.slice A1 32 c1) rfl rfl (by kernel_rfl) (by kernel_rfl) ?_
  refine Wk.rPure 2 (some 56) (.int .i64 32) rfl rfl (by kernel_rfl) (by kernel_rfl) ?_
  refine Wk.rPure 3 (some 57) (.int .i64 32) rfl rfl (by kernel_rfl) (Wk.int64 (n := 0 + 32) (z := 32) (by omega) (by omega) (by omega) (by kernel_rfl)) ?_
  refine Wk.rPure 4 (some 5) (.int .i64 32) rfl rfl (by kernel_rfl) (by kernel_rfl) ?_
  refine Wk.rEnd 5 rfl ?_
  refine Wk.inN ?_
  refine Wk.nxt ?_
  refine Wk.reg ?_
  refine Wk.rPure 0 (some 58) (.int .i64 1) rfl rfl (by kernel_rfl) (Wk.int64 (n := 0 + 1) (z := 1) (by omega) (by omega) (by omega) (by kernel_rfl)) ?_
  refine Wk.rPure 1 (some 44) (.int .i64 1) rfl rfl (by kernel_rfl) (by kernel_rfl) ?_
  refine Wk.rEnd 2 rfl ?_
  refine Wk.nxt ?_
  refine Wk.rdS ?_
  refine wp_seq ?_
  refine Wk.reg ?_
  refine Wk.rPure 0 (some 45) (.bool true) rfl rfl (by kernel_rfl) (Wk.boolT (b := decide ((1 : Int) < (4 : Int))) (decide_eq_true (by decide)) (by kernel_rfl)) ?_
  refine Wk.rEnd 1 rfl ?_
  refine Wk.nxt ?_
  refine wp_seq ?_
  refine wp_cond_true (by kernel_rfl) ?_
  refine wp_skip ?_
  refine Wk.nxt ?_
  refine wp_seq ?_
  refine wp_block ?_
  refine wp_seq ?_
  refine Wk.reg ?_
  refine Wk.rPure 0 (some 46) (.pointer (some ⟨gp, 1, none⟩)) rfl rfl (by kernel_rfl) (Wk.index_sl 83 38 (.tmp 42) (.tmp 44) rfl Tryd.underlying83 1 (by kernel_rfl) gp 0 4 4 1 .i64 (by kernel_rfl) (by kernel_rfl) (by omega)) ?_
  refine Wk.rPure 1 (some 47) (.slice A2 32 c2) rfl rfl (by kernel_rfl) (Wk.load1 38 (.tmp 46) rfl (by kernel_rfl) ⟨gp, 1, none⟩ (by kernel_rfl) (.slice A2 32 c2) ((cell_of_row _ _ 1 _ _ _ hp).trans rfl)) ?_
  refine Wk.rPure 2 (some 7) (.slice A2 32 c2) rfl rfl (by kernel_rfl) (by kernel_rfl) ?_
  refine Wk.rEnd 3 rfl ?_
  refine Wk.nxt ?_
  refine wp_seq ?_
  refine wp_seq ?_
  refine Wk.reg ?_
  refine Wk.rPure 0 (some 48) (.slice A2 32 c2) rfl rfl (by kernel_rfl) (by kernel_rfl) ?_
  refine Wk.rPure 1 (some 49) (.int .i64 32) rfl rfl (by kernel_rfl) (by kernel_rfl) ?_
  refine Wk.rPure 2 (some 50) (.int .i64 32) rfl rfl (by kernel_rfl) (by kernel_rfl) ?_
  refine Wk.rPure 3 (some 51) (.int .i64 9223372036854775775) rfl rfl (by kernel_rfl) (Wk.int64 (n := 9223372036854775807 - 32) (z := 9223372036854775775) (by omega) (by omega) (by omega) (by kernel_rfl)) ?_
  refine Wk.rPure 4 (some 52) (.bool false) rfl rfl (by kernel_rfl) (Wk.boolF (b := decide ((32 : Int) > (9223372036854775775 : Int))) (decide_eq_false (by decide)) (by kernel_rfl)) ?_
  refine Wk.rEnd 5 rfl ?_
  refine Wk.nxt ?_
  refine wp_cond_false (by kernel_rfl) ?_
  refine wp_skip ?_
  refine Wk.nxt ?_
  refine Wk.reg ?_
  refine Wk.rPure 0 (some 54) (.int .i64 32) rfl rfl (by kernel_rfl) (by kernel_rfl) ?_
  refine Wk.rPure 1 (some 55) (.slice A2 32 c2) rfl rfl (by kernel_rfl) (by kernel_rfl) ?_
  refine Wk.rPure 2 (some 56) (.int .i64 32) rfl rfl (by kernel_rfl) (by kernel_rfl) ?_
  refine Wk.rPure 3 (some 57) (.int .i64 64) rfl rfl (by kernel_rfl) (Wk.int64 (n := 32 + 32) (z := 64) (by omega) (by omega) (by omega) (by kernel_rfl)) ?_
  refine Wk.rPure 4 (some 5) (.int .i64 64) rfl rfl (by kernel_rfl) (by kernel_rfl) ?_
  refine Wk.rEnd 5 rfl ?_
  refine Wk.inN ?_
  refine Wk.nxt ?_
  refine Wk.reg ?_
  refine Wk.rPure 0 (some 58) (.int .i64 2) rfl rfl (by kernel_rfl) (Wk.int64 (n := 1 + 1) (z := 2) (by omega) (by omega) (by omega) (by kernel_rfl)) ?_
  refine Wk.rPure 1 (some 44) (.int .i64 2) rfl rfl (by kernel_rfl) (by kernel_rfl) ?_
  refine Wk.rEnd 2 rfl ?_
  refine Wk.nxt ?_
  refine Wk.rdS ?_
  refine wp_seq ?_
  refine Wk.reg ?_
  refine Wk.rPure 0 (some 45) (.bool true) rfl rfl (by kernel_rfl) (Wk.boolT (b := decide ((2 : Int) < (4 : Int))) (decide_eq_true (by decide)) (by kernel_rfl)) ?_
  refine Wk.rEnd 1 rfl ?_
  refine Wk.nxt ?_
  refine wp_seq ?_
  refine wp_cond_true (by kernel_rfl) ?_
  refine wp_skip ?_
  refine Wk.nxt ?_
  refine wp_seq ?_
  refine wp_block ?_
  refine wp_seq ?_
  refine Wk.reg ?_
  refine Wk.rPure 0 (some 46) (.pointer (some ⟨gp, 2, none⟩)) rfl rfl (by kernel_rfl) (Wk.index_sl 83 38 (.tmp 42) (.tmp 44) rfl Tryd.underlying83 1 (by kernel_rfl) gp 0 4 4 2 .i64 (by kernel_rfl) (by kernel_rfl) (by omega)) ?_
  refine Wk.rPure 1 (some 47) (.slice A3 8 c3) rfl rfl (by kernel_rfl) (Wk.load1 38 (.tmp 46) rfl (by kernel_rfl) ⟨gp, 2, none⟩ (by kernel_rfl) (.slice A3 8 c3) ((cell_of_row _ _ 2 _ _ _ hp).trans rfl)) ?_
  refine Wk.rPure 2 (some 7) (.slice A3 8 c3) rfl rfl (by kernel_rfl) (by kernel_rfl) ?_
  refine Wk.rEnd 3 rfl ?_
  refine Wk.nxt ?_
  refine wp_seq ?_
  refine wp_seq ?_
  refine Wk.reg ?_
  refine Wk.rPure 0 (some 48) (.slice A3 8 c3) rfl rfl (by kernel_rfl) (by kernel_rfl) ?_
  refine Wk.rPure 1 (some 49) (.int .i64 8) rfl rfl (by kernel_rfl) (by kernel_rfl) ?_
  refine Wk.rPure 2 (some 50) (.int .i64 64) rfl rfl (by kernel_rfl) (by kernel_rfl) ?_
  refine Wk.rPure 3 (some 51) (.int .i64 9223372036854775743) rfl rfl (by kernel_rfl) (Wk.int64 (n := 9223372036854775807 - 64) (z := 9223372036854775743) (by omega) (by omega) (by omega) (by kernel_rfl)) ?_
  refine Wk.rPure 4 (some 52) (.bool false) rfl rfl (by kernel_rfl) (Wk.boolF (b := decide ((8 : Int) > (9223372036854775743 : Int))) (decide_eq_false (by decide)) (by kernel_rfl)) ?_
  refine Wk.rEnd 5 rfl ?_
  refine Wk.nxt ?_
  refine wp_cond_false (by kernel_rfl) ?_
  refine wp_skip ?_
  refine Wk.nxt ?_
  refine Wk.reg ?_
  refine Wk.rPure 0 (some 54) (.int .i64 64) rfl rfl (by kernel_rfl) (by kernel_rfl) ?_
  refine Wk.rPure 1 (some 55) (.slice A3 8 c3) rfl rfl (by kernel_rfl) (by kernel_rfl) ?_
  refine Wk.rPure 2 (some 56) (.int .i64 8) rfl rfl (by kernel_rfl) (by kernel_rfl) ?_
  refine Wk.rPure 3 (some 57) (.int .i64 72) rfl rfl (by kernel_rfl) (Wk.int64 (n := 64 + 8) (z := 72) (by omega) (by omega) (by omega) (by kernel_rfl)) ?_
  refine Wk.rPure 4 (some 5) (.int .i64 72) rfl rfl (by kernel_rfl) (by kernel_rfl) ?_
  refine Wk.rEnd 5 rfl ?_
  refine Wk.inN ?_
  refine Wk.nxt ?_
  refine Wk.reg ?_
  refine Wk.rPure 0 (some 58) (.int .i64 3) rfl rfl (by kernel_rfl) (Wk.int64 (n := 2 + 1) (z := 3) (by omega) (by omega) (by omega) (by kernel_rfl)) ?_
  refine Wk.rPure 1 (some 44) (.int .i64 3) rfl rfl (by kernel_rfl) (by kernel_rfl) ?_
  refine Wk.rEnd 2 rfl ?_
  refine Wk.nxt ?_
  refine Wk.rdS ?_
  refine wp_seq ?_
  refine Wk.reg ?_
  refine Wk.rPure 0 (some 45) (.bool true) rfl rfl (by kernel_rfl) (Wk.boolT (b := decide ((3 : Int) < (4 : Int))) (decide_eq_true (by decide)) (by kernel_rfl)) ?_
  refine Wk.rEnd 1 rfl ?_
  refine Wk.nxt ?_
  refine wp_seq ?_
  refine wp_cond_true (by kernel_rfl) ?_
  refine wp_skip ?_
  refine Wk.nxt ?_
  refine wp_seq ?_
  refine wp_block ?_
  refine wp_seq ?_
  refine Wk.reg ?_
  refine Wk.rPure 0 (some 46) (.pointer (some ⟨gp, 3, none⟩)) rfl rfl (by kernel_rfl) (Wk.index_sl 83 38 (.tmp 42) (.tmp 44) rfl Tryd.underlying83 1 (by kernel_rfl) gp 0 4 4 3 .i64 (by kernel_rfl) (by kernel_rfl) (by omega)) ?_
  refine Wk.rPure 1 (some 47) (.slice A4 32 c4) rfl rfl (by kernel_rfl) (Wk.load1 38 (.tmp 46) rfl (by kernel_rfl) ⟨gp, 3, none⟩ (by kernel_rfl) (.slice A4 32 c4) ((cell_of_row _ _ 3 _ _ _ hp).trans rfl)) ?_
  refine Wk.rPure 2 (some 7) (.slice A4 32 c4) rfl rfl (by kernel_rfl) (by kernel_rfl) ?_
  refine Wk.rEnd 3 rfl ?_
  refine Wk.nxt ?_
  refine wp_seq ?_
  refine wp_seq ?_
  refine Wk.reg ?_
  refine Wk.rPure 0 (some 48) (.slice A4 32 c4) rfl rfl (by kernel_rfl) (by kernel_rfl) ?_
  refine Wk.rPure 1 (some 49) (.int .i64 32) rfl rfl (by kernel_rfl) (by kernel_rfl) ?_
  refine Wk.rPure 2 (some 50) (.int .i64 72) rfl rfl (by kernel_rfl) (by kernel_rfl) ?_
  refine Wk.rPure 3 (some 51) (.int .i64 9223372036854775735) rfl rfl (by kernel_rfl) (Wk.int64 (n := 9223372036854775807 - 72) (z := 9223372036854775735) (by omega) (by omega) (by omega) (by kernel_rfl)) ?_
  refine Wk.rPure 4 (some 52) (.bool false) rfl rfl (by kernel_rfl) (Wk.boolF (b := decide ((32 : Int) > (9223372036854775735 : Int))) (decide_eq_false (by decide)) (by kernel_rfl)) ?_
  refine Wk.rEnd 5 rfl ?_
  refine Wk.nxt ?_
  refine wp_cond_false (by kernel_rfl) ?_
  refine wp_skip ?_
  refine Wk.nxt ?_
  refine Wk.reg ?_
  refine Wk.rPure 0 (some 54) (.int .i64 72) rfl rfl (by kernel_rfl) (by kernel_rfl) ?_
  refine Wk.rPure 1 (some 55) (.slice A4 32 c4) rfl rfl (by kernel_rfl) (by kernel_rfl) ?_
  refine Wk.rPure 2 (some 56) (.int .i64 32) rfl rfl (by kernel_rfl) (by kernel_rfl) ?_
  refine Wk.rPure 3 (some 57) (.int .i64 104) rfl rfl (by kernel_rfl) (Wk.int64 (n := 72 + 32) (z := 104) (by omega) (by omega) (by omega) (by kernel_rfl)) ?_
  refine Wk.rPure 4 (some 5) (.int .i64 104) rfl rfl (by kernel_rfl) (by kernel_rfl) ?_
  refine Wk.rEnd 5 rfl ?_
  refine Wk.inN ?_
  refine Wk.nxt ?_
  refine Wk.reg ?_
  refine Wk.rPure 0 (some 58) (.int .i64 4) rfl rfl (by kernel_rfl) (Wk.int64 (n := 3 + 1) (z := 4) (by omega) (by omega) (by omega) (by kernel_rfl)) ?_
  refine Wk.rPure 1 (some 44) (.int .i64 4) rfl rfl (by kernel_rfl) (by kernel_rfl) ?_
  refine Wk.rEnd 2 rfl ?_
  refine Wk.nxt ?_
  refine Wk.rdS ?_
  refine wp_seq ?_
  refine Wk.reg ?_
  refine Wk.rPure 0 (some 45) (.bool false) rfl rfl (by kernel_rfl) (Wk.boolF (b := decide ((4 : Int) < (4 : Int))) (decide_eq_false (by decide)) (by kernel_rfl)) ?_
  refine Wk.rEnd 1 rfl ?_
  refine Wk.nxt ?_
  refine wp_seq ?_
  refine wp_cond_false (by kernel_rfl) ?_
  refine wp_exit ?_
  refine Wk.thX ?_
  refine Wk.thX ?_
  refine Wk.inX ?_
  refine Wk.nxt ?_
  refine wp_seq ?_
  refine Wk.reg ?_
  refine Wk.rPure 0 (some 59) (.int .i64 104) rfl rfl (by kernel_rfl) (by kernel_rfl) ?_
  refine Wk.rEx 1 (some 60) _ rfl rfl (by kernel_rfl) (Mur.run_nz Tryd.f91.params 38 5 Tryd.func91 (by kernel_rfl) (by kernel_rfl) (by kernel_rfl) (by kernel_rfl) Tryd.underlying38 (.tmp 59) _ rfl 104 (by kernel_rfl) (by omega)) ?_
  rintro _ W1 ⟨cs1, rfl, hb1, hl1, ch1, sz1⟩
  have zz1 := ch1.size
  refine Wk.rPure 2 (some 61) (.int .i64 104) rfl rfl (by kernel_rfl) (by kernel_rfl) ?_
  refine Wk.rPure 3 (some 62) (.int .i64 104) rfl rfl (by kernel_rfl) (by kernel_rfl) ?_
  refine Wk.rPure 4 (some 63) (.slice (some ⟨w.heap.size, 0, none⟩) 104 104) rfl rfl (by kernel_rfl) (Mur.run_cut3 38 (.tmp 60) none (.tmp 61) (.tmp 62) rfl 5 Tryd.underlying38 (by kernel_rfl) w.heap.size 0 104 cs1.length 0 104 104 104 (by kernel_rfl) (.inr ⟨rfl, rfl⟩) (by kernel_rfl) (by kernel_rfl) rfl rfl (by omega) (by omega)) ?_
  refine Wk.rPure 5 (some 8) (.slice (some ⟨w.heap.size, 0, none⟩) 104 104) rfl rfl (by kernel_rfl) (by kernel_rfl) ?_
  refine Wk.rEnd 6 rfl ?_
  refine Wk.nxt ?_
  refine wp_seq ?_
  refine Wk.reg ?_
  refine Wk.rPure 0 (some 64) (.slice (some ⟨w.heap.size, 0, none⟩) 104 104) rfl rfl (by kernel_rfl) (by kernel_rfl) ?_
  refine Wk.rPure 1 (some 65) (.slice (some ⟨gp, 0, none⟩) 4 4) rfl rfl (by kernel_rfl) (by kernel_rfl) ?_
  refine Wk.rPure 2 (some 66) (.pointer (some ⟨gp, 0, none⟩)) rfl rfl (by kernel_rfl) (Wk.index_sl 83 38 (.tmp 65) (.const (.int .i64 0)) rfl Tryd.underlying83 1 (by kernel_rfl) gp 0 4 4 0 .i64 (by kernel_rfl) (by kernel_rfl) (by omega)) ?_
  have kk1 : Wk.Chg [] w W1 := Wk.Chg.step ((Wk.Chg.refl _).more (by simp)) ch1 trivial
  refine Wk.rPure 3 (some 67) (.slice A1 32 c1) rfl rfl (by kernel_rfl) (Wk.load1 38 (.tmp 66) rfl (by kernel_rfl) ⟨gp, 0, none⟩ (by kernel_rfl) (.slice A1 32 c1) ((cell_of_row _ _ 0 _ _ _ (Wk.Chg.hp kk1 hp trivial)).trans rfl)) ?_
  refine Wk.rEx 4 (some 68) _ rfl rfl (by kernel_rfl) (Mur.copy_mid (.tmp 64) (.tmp 67) 38 38 rfl 5 Tryd.underlying38 (by kernel_rfl) w.heap.size 0 104 104 (by kernel_rfl) A1 32 c1 (by kernel_rfl) 5 (b8s ([]) ++ cs1.drop 0) k hb1 (Mur.byt_chg hy1 kk1 (fun g off e hl => trivial)) (by omega) (by omega) (by have hfl_ := Mur.fill_len (cs := cs1) (acc := []) (p := 0) (rfl : ([] : List UInt8).length = 0) (by omega); omega) (b8s (k) ++ cs1.drop 32) (Mur.fill_step (rfl : ([] : List UInt8).length = 0) hy1.1 rfl (by omega))) ?_
  rintro _ W2 ⟨rfl, hb2, ch2⟩
  have zz2 := ch2.size
  refine Wk.rPure 5 (some 9) (.int .i64 32) rfl rfl (by kernel_rfl) (by kernel_rfl) ?_
  refine Wk.rEnd 6 rfl ?_
  refine Wk.nxt ?_
  refine wp_seq ?_
  refine wp_seq ?_
  refine Wk.reg ?_
  refine Wk.rPure 0 (some 69) (.slice (some ⟨gp, 0, none⟩) 4 4) rfl rfl (by kernel_rfl) (by kernel_rfl) ?_
  refine Wk.rPure 1 (some 70) (.slice (some ⟨gp, 1, none⟩) 3 3) rfl rfl (by kernel_rfl) (Mur.run_from_at 83 (.tmp 69) (.const (.int .i64 1)) rfl 38 Tryd.underlying83 (by kernel_rfl) gp 0 4 4 1 3 (by kernel_rfl) (by kernel_rfl) (by omega) (by omega) rfl) ?_
  refine Wk.rPure 2 (some 71) (.int .i64 3) rfl rfl (by kernel_rfl) (by kernel_rfl) ?_
  refine Wk.rPure 3 (some 72) (.int .i64 0) rfl rfl (by kernel_rfl) (by kernel_rfl) ?_
  refine Wk.rEnd 4 rfl ?_
  refine Wk.nxt ?_
  refine wp_block ?_
  refine Wk.loopN 4 ?_
  refine Wk.rdS ?_
  refine wp_seq ?_
  refine Wk.reg ?_
  refine Wk.rPure 0 (some 73) (.bool true) rfl rfl (by kernel_rfl) (Wk.boolT (b := decide ((0 : Int) < (3 : Int))) (decide_eq_true (by decide)) (by kernel_rfl)) ?_
  refine Wk.rEnd 1 rfl ?_
  refine Wk.nxt ?_
  refine wp_seq ?_
  refine wp_cond_true (by kernel_rfl) ?_
  refine wp_skip ?_
  refine Wk.nxt ?_
  refine wp_seq ?_
  refine wp_block ?_
  refine wp_seq ?_
  refine Wk.reg ?_
  refine Wk.rPure 0 (some 74) (.pointer (some ⟨gp, 1, none⟩)) rfl rfl (by kernel_rfl) (Wk.index_sl 83 38 (.tmp 70) (.tmp 72) rfl Tryd.underlying83 1 (by kernel_rfl) gp 1 3 3 0 .i64 (by kernel_rfl) (by kernel_rfl) (by omega)) ?_
  have kk2 := Wk.Chg.step kk1 ch2 ⟨.inr (by omega), trivial⟩
  refine Wk.rPure 1 (some 75) (.slice A2 32 c2) rfl rfl (by kernel_rfl) (Wk.load1 38 (.tmp 74) rfl (by kernel_rfl) ⟨gp, 1, none⟩ (by kernel_rfl) (.slice A2 32 c2) ((cell_of_row _ _ 1 _ _ _ (Wk.Chg.hp kk2 hp trivial)).trans rfl)) ?_
  refine Wk.rPure 2 (some 11) (.slice A2 32 c2) rfl rfl (by kernel_rfl) (by kernel_rfl) ?_
  refine Wk.rEnd 3 rfl ?_
  refine Wk.nxt ?_
  refine wp_seq ?_
  refine Wk.reg ?_
  refine Wk.rPure 0 (some 76) (.int .i64 32) rfl rfl (by kernel_rfl) (by kernel_rfl) ?_
  refine Wk.rPure 1 (some 77) (.slice (some ⟨w.heap.size, 0, none⟩) 104 104) rfl rfl (by kernel_rfl) (by kernel_rfl) ?_
  refine Wk.rPure 2 (some 78) (.int .i64 32) rfl rfl (by kernel_rfl) (by kernel_rfl) ?_
  refine Wk.rPure 3 (some 79) (.slice (some ⟨w.heap.size, 32, none⟩) 72 72) rfl rfl (by kernel_rfl) (Mur.run_from_at 38 (.tmp 77) (.tmp 78) rfl 5 Tryd.underlying38 (by kernel_rfl) w.heap.size 0 104 104 32 72 (by kernel_rfl) (by kernel_rfl) (by omega) (by omega) rfl) ?_
  refine Wk.rPure 4 (some 80) (.slice none 0 0) rfl rfl (by kernel_rfl) (by kernel_rfl) ?_
  refine Wk.rPure 5 (some 81) (.int .i64 0) rfl rfl (by kernel_rfl) (Mur.copy_none (.tmp 79) (.tmp 80) 38 38 rfl 5 Tryd.underlying38 (by kernel_rfl) ⟨w.heap.size, 32, none⟩ 72 72 (by kernel_rfl) (by kernel_rfl)) ?_
  refine Wk.rPure 6 (some 82) (.int .i64 32) rfl rfl (by kernel_rfl) (Wk.int64 (n := 32 + 0) (z := 32) (by omega) (by omega) (by omega) (by kernel_rfl)) ?_
  refine Wk.rPure 7 (some 9) (.int .i64 32) rfl rfl (by kernel_rfl) (by kernel_rfl) ?_
  refine Wk.rEnd 8 rfl ?_
  refine Wk.nxt ?_
  refine Wk.reg ?_
  refine Wk.rPure 0 (some 83) (.int .i64 32) rfl rfl (by kernel_rfl) (by kernel_rfl) ?_
  refine Wk.rPure 1 (some 84) (.slice (some ⟨w.heap.size, 0, none⟩) 104 104) rfl rfl (by kernel_rfl) (by kernel_rfl) ?_
  refine Wk.rPure 2 (some 85) (.int .i64 32) rfl rfl (by kernel_rfl) (by kernel_rfl) ?_
  refine Wk.rPure 3 (some 86) (.slice (some ⟨w.heap.size, 32, none⟩) 72 72) rfl rfl (by kernel_rfl) (Mur.run_from_at 38 (.tmp 84) (.tmp 85) rfl 5 Tryd.underlying38 (by kernel_rfl) w.heap.size 0 104 104 32 72 (by kernel_rfl) (by kernel_rfl) (by omega) (by omega) rfl) ?_
  refine Wk.rPure 4 (some 87) (.slice A2 32 c2) rfl rfl (by kernel_rfl) (by kernel_rfl) ?_
  refine Wk.rEx 5 (some 88) _ rfl rfl (by kernel_rfl) (Mur.copy_mid (.tmp 86) (.tmp 87) 38 38 rfl 5 Tryd.underlying38 (by kernel_rfl) w.heap.size 32 72 72 (by kernel_rfl) A2 32 c2 (by kernel_rfl) 5 (b8s (k) ++ cs1.drop 32) r hb2 (Mur.byt_chg hy2 kk2 (fun g off e hl => trivial)) (by omega) (by omega) (by have hfl_ := Mur.fill_len (cs := cs1) (acc := k) (p := 32) hy1.1 (by omega); omega) (b8s (k ++ r) ++ cs1.drop 64) (Mur.fill_step hy1.1 hy2.1 rfl (by omega))) ?_
  rintro _ W3 ⟨rfl, hb3, ch3⟩
  have zz3 := ch3.size
  refine Wk.rPure 6 (some 89) (.int .i64 64) rfl rfl (by kernel_rfl) (Wk.int64 (n := 32 + 32) (z := 64) (by omega) (by omega) (by omega) (by kernel_rfl)) ?_
  refine Wk.rPure 7 (some 9) (.int .i64 64) rfl rfl (by kernel_rfl) (by kernel_rfl) ?_
  refine Wk.rEnd 8 rfl ?_
  refine Wk.inN ?_
  refine Wk.nxt ?_
  refine Wk.reg ?_
  refine Wk.rPure 0 (some 90) (.int .i64 1) rfl rfl (by kernel_rfl) (Wk.int64 (n := 0 + 1) (z := 1) (by omega) (by omega) (by omega) (by kernel_rfl)) ?_
  refine Wk.rPure 1 (some 72) (.int .i64 1) rfl rfl (by kernel_rfl) (by kernel_rfl) ?_
  refine Wk.rEnd 2 rfl ?_
  refine Wk.nxt ?_
  refine Wk.rdS ?_
  refine wp_seq ?_
  refine Wk.reg ?_
  refine Wk.rPure 0 (some 73) (.bool true) rfl rfl (by kernel_rfl) (Wk.boolT (b := decide ((1 : Int) < (3 : Int))) (decide_eq_true (by decide)) (by kernel_rfl)) ?_
  refine Wk.rEnd 1 rfl ?_
  refine Wk.nxt ?_
  refine wp_seq ?_
  refine wp_cond_true (by kernel_rfl) ?_
  refine wp_skip ?_
  refine Wk.nxt ?_
  refine wp_seq ?_
  refine wp_block ?_
  refine wp_seq ?_
  refine Wk.reg ?_
  refine Wk.rPure 0 (some 74) (.pointer (some ⟨gp, 2, none⟩)) rfl rfl (by kernel_rfl) (Wk.index_sl 83 38 (.tmp 70) (.tmp 72) rfl Tryd.underlying83 1 (by kernel_rfl) gp 1 3 3 1 .i64 (by kernel_rfl) (by kernel_rfl) (by omega)) ?_
  have kk3 := Wk.Chg.step kk2 ch3 ⟨.inr (by omega), trivial⟩
  refine Wk.rPure 1 (some 75) (.slice A3 8 c3) rfl rfl (by kernel_rfl) (Wk.load1 38 (.tmp 74) rfl (by kernel_rfl) ⟨gp, 2, none⟩ (by kernel_rfl) (.slice A3 8 c3) ((cell_of_row _ _ 2 _ _ _ (Wk.Chg.hp kk3 hp trivial)).trans rfl)) ?_
  refine Wk.rPure 2 (some 11) (.slice A3 8 c3) rfl rfl (by kernel_rfl) (by kernel_rfl) ?_
  refine Wk.rEnd 3 rfl ?_
  refine Wk.nxt ?_
  refine wp_seq ?_
  refine Wk.reg ?_
  refine Wk.rPure 0 (some 76) (.int .i64 64) rfl rfl (by kernel_rfl) (by kernel_rfl) ?_
  refine Wk.rPure 1 (some 77) (.slice (some ⟨w.heap.size, 0, none⟩) 104 104) rfl rfl (by kernel_rfl) (by kernel_rfl) ?_
  refine Wk.rPure 2 (some 78) (.int .i64 64) rfl rfl (by kernel_rfl) (by kernel_rfl) ?_
  refine Wk.rPure 3 (some 79) (.slice (some ⟨w.heap.size, 64, none⟩) 40 40) rfl rfl (by kernel_rfl) (Mur.run_from_at 38 (.tmp 77) (.tmp 78) rfl 5 Tryd.underlying38 (by kernel_rfl) w.heap.size 0 104 104 64 40 (by kernel_rfl) (by kernel_rfl) (by omega) (by omega) rfl) ?_
  refine Wk.rPure 4 (some 80) (.slice none 0 0) rfl rfl (by kernel_rfl) (by kernel_rfl) ?_
  refine Wk.rPure 5 (some 81) (.int .i64 0) rfl rfl (by kernel_rfl) (Mur.copy_none (.tmp 79) (.tmp 80) 38 38 rfl 5 Tryd.underlying38 (by kernel_rfl) ⟨w.heap.size, 64, none⟩ 40 40 (by kernel_rfl) (by kernel_rfl)) ?_
  refine Wk.rPure 6 (some 82) (.int .i64 64) rfl rfl (by kernel_rfl) (Wk.int64 (n := 64 + 0) (z := 64) (by omega) (by omega) (by omega) (by kernel_rfl)) ?_
  refine Wk.rPure 7 (some 9) (.int .i64 64) rfl rfl (by kernel_rfl) (by kernel_rfl) ?_
  refine Wk.rEnd 8 rfl ?_
  refine Wk.nxt ?_
  refine Wk.reg ?_
  refine Wk.rPure 0 (some 83) (.int .i64 64) rfl rfl (by kernel_rfl) (by kernel_rfl) ?_
  refine Wk.rPure 1 (some 84) (.slice (some ⟨w.heap.size, 0, none⟩) 104 104) rfl rfl (by kernel_rfl) (by kernel_rfl) ?_
  refine Wk.rPure 2 (some 85) (.int .i64 64) rfl rfl (by kernel_rfl) (by kernel_rfl) ?_
  refine Wk.rPure 3 (some 86) (.slice (some ⟨w.heap.size, 64, none⟩) 40 40) rfl rfl (by kernel_rfl) (Mur.run_from_at 38 (.tmp 84) (.tmp 85) rfl 5 Tryd.underlying38 (by kernel_rfl) w.heap.size 0 104 104 64 40 (by kernel_rfl) (by kernel_rfl) (by omega) (by omega) rfl) ?_
  refine Wk.rPure 4 (some 87) (.slice A3 8 c3) rfl rfl (by kernel_rfl) (by kernel_rfl) ?_
  refine Wk.rEx 5 (some 88) _ rfl rfl (by kernel_rfl) (Mur.copy_mid (.tmp 86) (.tmp 87) 38 38 rfl 5 Tryd.underlying38 (by kernel_rfl) w.heap.size 64 40 40 (by kernel_rfl) A3 8 c3 (by kernel_rfl) 5 (b8s (k ++ r) ++ cs1.drop 64) E hb3 (Mur.byt_chg hy3 kk3 (fun g off e hl => trivial)) (by omega) (by omega) (by have hfl_ := Mur.fill_len (cs := cs1) (acc := k ++ r) (p := 64) (by simp only [List.length_append]; have := hy1.1; have := hy2.1; have := hy3.1; omega) (by omega); omega) (b8s ((k ++ r) ++ E) ++ cs1.drop 72) (Mur.fill_step (by simp only [List.length_append]; have := hy1.1; have := hy2.1; have := hy3.1; omega) hy3.1 rfl (by omega))) ?_
  rintro _ W4 ⟨rfl, hb4, ch4⟩
  have zz4 := ch4.size
  refine Wk.rPure 6 (some 89) (.int .i64 72) rfl rfl (by kernel_rfl) (Wk.int64 (n := 64 + 8) (z := 72) (by omega) (by omega) (by omega) (by kernel_rfl)) ?_
  refine Wk.rPure 7 (some 9) (.int .i64 72) rfl rfl (by kernel_rfl) (by kernel_rfl) ?_
  refine Wk.rEnd 8 rfl ?_
  refine Wk.inN ?_
  refine Wk.nxt ?_
  refine Wk.reg ?_
  refine Wk.rPure 0 (some 90) (.int .i64 2) rfl rfl (by kernel_rfl) (Wk.int64 (n := 1 + 1) (z := 2) (by omega) (by omega) (by omega) (by kernel_rfl)) ?_
  refine Wk.rPure 1 (some 72) (.int .i64 2) rfl rfl (by kernel_rfl) (by kernel_rfl) ?_
  refine Wk.rEnd 2 rfl ?_
  refine Wk.nxt ?_
  refine Wk.rdS ?_
  refine wp_seq ?_
  refine Wk.reg ?_
  refine Wk.rPure 0 (some 73) (.bool true) rfl rfl (by kernel_rfl) (Wk.boolT (b := decide ((2 : Int) < (3 : Int))) (decide_eq_true (by decide)) (by kernel_rfl)) ?_
  refine Wk.rEnd 1 rfl ?_
  refine Wk.nxt ?_
  refine wp_seq ?_
  refine wp_cond_true (by kernel_rfl) ?_
  refine wp_skip ?_
  refine Wk.nxt ?_
  refine wp_seq ?_
  refine wp_block ?_
  refine wp_seq ?_
  refine Wk.reg ?_
  refine Wk.rPure 0 (some 74) (.pointer (some ⟨gp, 3, none⟩)) rfl rfl (by kernel_rfl) (Wk.index_sl 83 38 (.tmp 70) (.tmp 72) rfl Tryd.underlying83 1 (by kernel_rfl) gp 1 3 3 2 .i64 (by kernel_rfl) (by kernel_rfl) (by omega)) ?_
  have kk4 := Wk.Chg.step kk3 ch4 ⟨.inr (by omega), trivial⟩
  refine Wk.rPure 1 (some 75) (.slice A4 32 c4) rfl rfl (by kernel_rfl) (Wk.load1 38 (.tmp 74) rfl (by kernel_rfl) ⟨gp, 3, none⟩ (by kernel_rfl) (.slice A4 32 c4) ((cell_of_row _ _ 3 _ _ _ (Wk.Chg.hp kk4 hp trivial)).trans rfl)) ?_
  refine Wk.rPure 2 (some 11) (.slice A4 32 c4) rfl rfl (by kernel_rfl) (by kernel_rfl) ?_
  refine Wk.rEnd 3 rfl ?_
  refine Wk.nxt ?_
  refine wp_seq ?_
  refine Wk.reg ?_
  refine Wk.rPure 0 (some 76) (.int .i64 72) rfl rfl (by kernel_rfl) (by kernel_rfl) ?_
  refine Wk.rPure 1 (some 77) (.slice (some ⟨w.heap.size, 0, none⟩) 104 104) rfl rfl (by kernel_rfl) (by kernel_rfl) ?_
  refine Wk.rPure 2 (some 78) (.int .i64 72) rfl rfl (by kernel_rfl) (by kernel_rfl) ?_
  refine Wk.rPure 3 (some 79) (.slice (some ⟨w.heap.size, 72, none⟩) 32 32) rfl rfl (by kernel_rfl) (Mur.run_from_at 38 (.tmp 77) (.tmp 78) rfl 5 Tryd.underlying38 (by kernel_rfl) w.heap.size 0 104 104 72 32 (by kernel_rfl) (by kernel_rfl) (by omega) (by omega) rfl) ?_
  refine Wk.rPure 4 (some 80) (.slice none 0 0) rfl rfl (by kernel_rfl) (by kernel_rfl) ?_
  refine Wk.rPure 5 (some 81) (.int .i64 0) rfl rfl (by kernel_rfl) (Mur.copy_none (.tmp 79) (.tmp 80) 38 38 rfl 5 Tryd.underlying38 (by kernel_rfl) ⟨w.heap.size, 72, none⟩ 32 32 (by kernel_rfl) (by kernel_rfl)) ?_
  refine Wk.rPure 6 (some 82) (.int .i64 72) rfl rfl (by kernel_rfl) (Wk.int64 (n := 72 + 0) (z := 72) (by omega) (by omega) (by omega) (by kernel_rfl)) ?_
  refine Wk.rPure 7 (some 9) (.int .i64 72) rfl rfl (by kernel_rfl) (by kernel_rfl) ?_
  refine Wk.rEnd 8 rfl ?_
  refine Wk.nxt ?_
  refine Wk.reg ?_
  refine Wk.rPure 0 (some 83) (.int .i64 72) rfl rfl (by kernel_rfl) (by kernel_rfl) ?_
  refine Wk.rPure 1 (some 84) (.slice (some ⟨w.heap.size, 0, none⟩) 104 104) rfl rfl (by kernel_rfl) (by kernel_rfl) ?_
  refine Wk.rPure 2 (some 85) (.int .i64 72) rfl rfl (by kernel_rfl) (by kernel_rfl) ?_
  refine Wk.rPure 3 (some 86) (.slice (some ⟨w.heap.size, 72, none⟩) 32 32) rfl rfl (by kernel_rfl) (Mur.run_from_at 38 (.tmp 84) (.tmp 85) rfl 5 Tryd.underlying38 (by kernel_rfl) w.heap.size 0 104 104 72 32 (by kernel_rfl) (by kernel_rfl) (by omega) (by omega) rfl) ?_
  refine Wk.rPure 4 (some 87) (.slice A4 32 c4) rfl rfl (by kernel_rfl) (by kernel_rfl) ?_
  refine Wk.rEx 5 (some 88) _ rfl rfl (by kernel_rfl) (Mur.copy_mid (.tmp 86) (.tmp 87) 38 38 rfl 5 Tryd.underlying38 (by kernel_rfl) w.heap.size 72 32 32 (by kernel_rfl) A4 32 c4 (by kernel_rfl) 5 (b8s ((k ++ r) ++ E) ++ cs1.drop 72) t hb4 (Mur.byt_chg hy4 kk4 (fun g off e hl => trivial)) (by omega) (by omega) (by have hfl_ := Mur.fill_len (cs := cs1) (acc := (k ++ r) ++ E) (p := 72) (by simp only [List.length_append]; have := hy1.1; have := hy2.1; have := hy3.1; omega) (by omega); omega) (b8s (((k ++ r) ++ E) ++ t) ++ cs1.drop 104) (Mur.fill_step (by simp only [List.length_append]; have := hy1.1; have := hy2.1; have := hy3.1; omega) hy4.1 rfl (by omega))) ?_
  rintro _ W5 ⟨rfl, hb5, ch5⟩
  have zz5 := ch5.size
  refine Wk.rPure 6 (some 89) (.int .i64 104) rfl rfl (by kernel_rfl) (Wk.int64 (n := 72 + 32) (z := 104) (by omega) (by omega) (by omega) (by kernel_rfl)) ?_
  refine Wk.rPure 7 (some 9) (.int .i64 104) rfl rfl (by kernel_rfl) (by kernel_rfl) ?_
  refine Wk.rEnd 8 rfl ?_
  refine Wk.inN ?_
  refine Wk.nxt ?_
  refine Wk.reg ?_
  refine Wk.rPure 0 (some 90) (.int .i64 3) rfl rfl (by kernel_rfl) (Wk.int64 (n := 2 + 1) (z := 3) (by omega) (by omega) (by omega) (by kernel_rfl)) ?_
  refine Wk.rPure 1 (some 72) (.int .i64 3) rfl rfl (by kernel_rfl) (by kernel_rfl) ?_
  refine Wk.rEnd 2 rfl ?_
  refine Wk.nxt ?_
  refine Wk.rdS ?_
  refine wp_seq ?_
  refine Wk.reg ?_
  refine Wk.rPure 0 (some 73) (.bool false) rfl rfl (by kernel_rfl) (Wk.boolF (b := decide ((3 : Int) < (3 : Int))) (decide_eq_false (by decide)) (by kernel_rfl)) ?_
  refine Wk.rEnd 1 rfl ?_
  refine Wk.nxt ?_
  refine wp_seq ?_
  refine wp_cond_false (by kernel_rfl) ?_
  refine wp_exit ?_
  refine Wk.thX ?_
  refine Wk.thX ?_
  refine Wk.inX ?_
  refine Wk.nxt ?_
  refine wp_seq ?_
  refine Wk.reg ?_
  refine Wk.rPure 0 (some 91) (.slice (some ⟨w.heap.size, 0, none⟩) 104 104) rfl rfl (by kernel_rfl) (by kernel_rfl) ?_
  refine Wk.rPure 1 (some 4) (.slice (some ⟨w.heap.size, 0, none⟩) 104 104) rfl rfl (by kernel_rfl) (by kernel_rfl) ?_
  refine Wk.rEnd 2 rfl ?_
  refine Wk.nxt ?_
  refine wp_ret ?_
  have kk5 := Wk.Chg.step kk4 ch5 ⟨.inr (by omega), trivial⟩
  refine Wk.ret (.slice (some ⟨w.heap.size, 0, none⟩) 104 104) rfl (by kernel_rfl) ?_
  exact ⟨w.heap.size, rfl, Mur.byt_fill hb5 (by simp only [List.length_append]; have := hy1.1; have := hy2.1; have := hy3.1; have := hy4.1; omega), ⟨by omega, by omega⟩, kk5⟩
end Go.Proofs.YtfhneademopciaaDoor
namespace Go.Proofs.YtfhneademopciaaDoor
open Go.RowKit
open Mur (b8s Byt Own8 Seg Segs flat cutA attC)
set_option maxRecDepth 100000
set_option maxHeartbeats 4000000
theorem raw_any (k r t : List UInt8) (n : Int) (hk : k.length = 32) (hr : r.length = 32) (ht : t.length = 32) (w : World) : Calls Tryd.prog 61 #[.agg (attC k r n t).toArray] w fun e w' => ∃ q cq B, Hid (B = Mur.rawL k r n t) ∧ e = .returned (.slice (some ⟨q, 0, none⟩) 104 cq) ∧ Byt w' (some ⟨q, 0, none⟩) 104 B ∧ (w.heap.size ≤ q ∧ q < w'.heap.size) ∧ (104 ≤ cq ∧ cq ≤ 9223372036854775807) ∧ Wk.Chg [] w w' := by
  refine calls_of_wp Tryd.func61 rfl ?_
  refine wp_seq ?_
  refine Wk.reg ?_
  refine Wk.rEx 0 (some 1) _ rfl rfl (by kernel_rfl) (Wk.new_ex (.pointer (some ⟨w.heap.size, 0, none⟩)) ((Mur.attC k r n t).toArray) 32 (by kernel_rfl)) ?_
  rintro _ W1 ⟨rfl, hb1, ch1, sz1⟩
  have zz1 := ch1.size
  refine Wk.rPure 1 (some 2) (.slice none 0 0) rfl rfl (by kernel_rfl) (by kernel_rfl) ?_
  refine Wk.rEnd 2 rfl ?_
  refine Wk.nxt ?_
  refine wp_seq ?_
  refine Wk.reg ?_
  refine Wk.rPure 0 (some 4) (.pointer (some ⟨w.heap.size, 64, none⟩)) rfl rfl (by kernel_rfl) (by kernel_rfl) ?_
  refine Wk.rPure 1 (some 5) (.int .i64 n) rfl rfl (by kernel_rfl) (Wk.load1 3 (.tmp 4) rfl (by kernel_rfl) ⟨w.heap.size, 64, none⟩ (by kernel_rfl) (.int .i64 n) (Mur.att_len hk hr hb1)) ?_
  refine Wk.rCall 2 (some 6) 80 [.tmp 5] #[3] [.int .i64 n] rfl rfl (by kernel_rfl) rfl (by kernel_rfl) (by kernel_rfl) ?_
  refine (eight_any n W1).mono ?_
  rintro _ W2 ⟨e8_1, hd1, hdl1, rfl, ch2⟩
  have zz2 := ch2.size
  refine ⟨_, rfl, ?_⟩
  refine Wk.rEx 3 (some 3) _ rfl rfl (by kernel_rfl) (Wk.new_ex (.pointer (some ⟨W2.heap.size, 0, none⟩)) #[.int .u8 0, .int .u8 0, .int .u8 0, .int .u8 0, .int .u8 0, .int .u8 0, .int .u8 0, .int .u8 0] 127 (by kernel_rfl)) ?_
  rintro _ W3 ⟨rfl, hb2, ch3, sz2⟩
  have zz3 := ch3.size
  refine Wk.rExS 4 none _ rfl rfl (by kernel_rfl) (Mur.storeAll 127 (.tmp 3) (.tmp 6) rfl W2.heap.size (by kernel_rfl) e8_1 8 hdl1 (by kernel_rfl) (by kernel_rfl) 127 #[.int .u8 0, .int .u8 0, .int .u8 0, .int .u8 0, .int .u8 0, .int .u8 0, .int .u8 0, .int .u8 0] hb2 rfl) ?_
  rintro W4 ⟨hb3, ch4⟩
  have zz4 := ch4.size
  refine Wk.rEnd 5 rfl ?_
  refine Wk.nxt ?_
  refine wp_seq ?_
  refine Wk.dReg ([]) (by kernel_rfl) ?_
  intro W5 ch5 sz3
  have zz5 := ch5.size
  have sS1 : Wk.Chg ([]) W5 W5 := (Wk.Chg.refl _).more (by simp)
  refine Wk.dVal 0 (some 7) (.pointer (some ⟨w.heap.size, 0, none⟩)) rfl rfl (by kernel_rfl) (by kernel_rfl) (by kernel_rfl) (fun _ _ _ h => h) (by kernel_rfl) (fun w' hw' => by kernel_rfl) sS1 ?_
  refine Wk.dVal 1 (some 8) (.slice (some ⟨w.heap.size, 0, none⟩) 32 32) rfl rfl (by kernel_rfl) (by kernel_rfl) (by kernel_rfl) (fun _ _ _ h => h) (by kernel_rfl) (fun w' hw' => (Mur.arr_slice 30 5 (.tmp 7) 32 rfl Tryd.underlying30 (by kernel_rfl) w.heap.size (by kernel_rfl))) sS1 ?_
  refine Wk.dVal 2 (some 9) (.pointer (some ⟨w.heap.size, 32, none⟩)) rfl rfl (by kernel_rfl) (by kernel_rfl) (by kernel_rfl) (fun _ _ _ h => h) (by kernel_rfl) (fun w' hw' => by kernel_rfl) sS1 ?_
  refine Wk.dVal 3 (some 10) (.slice (some ⟨w.heap.size, 32, none⟩) 32 32) rfl rfl (by kernel_rfl) (by kernel_rfl) (by kernel_rfl) (fun _ _ _ h => h) (by kernel_rfl) (fun w' hw' => (Mur.arr_slice_at 30 5 (.tmp 9) 32 rfl Tryd.underlying30 (by kernel_rfl) w.heap.size 32 (by kernel_rfl))) sS1 ?_
  refine Wk.dVal 4 (some 11) (.slice (some ⟨W2.heap.size, 0, none⟩) 8 8) rfl rfl (by kernel_rfl) (by kernel_rfl) (by kernel_rfl) (fun _ _ _ h => h) (by kernel_rfl) (fun w' hw' => (Mur.arr_slice 127 5 (.tmp 3) 8 rfl Tryd.underlying127 (by kernel_rfl) W2.heap.size (by kernel_rfl))) sS1 ?_
  refine Wk.dVal 5 (some 12) (.pointer (some ⟨w.heap.size, 65, none⟩)) rfl rfl (by kernel_rfl) (by kernel_rfl) (by kernel_rfl) (fun _ _ _ h => h) (by kernel_rfl) (fun w' hw' => by kernel_rfl) sS1 ?_
  refine Wk.dVal 6 (some 13) (.slice (some ⟨w.heap.size, 65, none⟩) 32 32) rfl rfl (by kernel_rfl) (by kernel_rfl) (by kernel_rfl) (fun _ _ _ h => h) (by kernel_rfl) (fun w' hw' => (Mur.arr_slice_at 30 5 (.tmp 12) 32 rfl Tryd.underlying30 (by kernel_rfl) w.heap.size 65 (by kernel_rfl))) sS1 ?_
  refine Wk.dOp 7 (by kernel_rfl) ?_
  refine Wk.oEx (some 14) _ rfl rfl (by kernel_rfl) (Wk.new_ex (.slice (some ⟨W5.heap.size, 0, none⟩) 4 4) #[.slice (some ⟨w.heap.size, 0, none⟩) 32 32, .slice (some ⟨w.heap.size, 32, none⟩) 32 32, .slice (some ⟨W2.heap.size, 0, none⟩) 8 8, .slice (some ⟨w.heap.size, 65, none⟩) 32 32] 38 (by kernel_rfl)) ?_
  rintro _ W6 ⟨rfl, hb4, ch6, sz4⟩
  have zz6 := ch6.size
  have sS2 := Wk.Chg.step sS1 ch6 trivial
  refine ⟨sS2, ?_⟩
  refine Wk.dOp 8 (by kernel_rfl) ?_
  refine Wk.oCall (some 15) 81 [.tmp 14, .const (.slice none 0 0)] #[83, 38] [.slice (some ⟨W5.heap.size, 0, none⟩) 4 4, .slice none 0 0] rfl rfl (by kernel_rfl) rfl (by kernel_rfl) (by kernel_rfl) ?_
  refine (Join4_any W5.heap.size 38 (0, 0) (some ⟨w.heap.size, 0, none⟩) (some ⟨w.heap.size, 32, none⟩) (some ⟨W2.heap.size, 0, none⟩) (some ⟨w.heap.size, 65, none⟩) 32 32 8 32 k r e8_1 t W6 hb4 (Mur.byt_rng (Mur.att_key (Wk.Chg.hp ch6 (Wk.Chg.hp ch5 (Wk.Chg.hp ch4 (Wk.Chg.hp ch3 (Wk.Chg.hp ch2 hb1 trivial) trivial) ⟨by omega, trivial⟩) trivial) trivial)) hk) (Mur.byt_rng (Mur.att_root hk (Wk.Chg.hp ch6 (Wk.Chg.hp ch5 (Wk.Chg.hp ch4 (Wk.Chg.hp ch3 (Wk.Chg.hp ch2 hb1 trivial) trivial) ⟨by omega, trivial⟩) trivial) trivial)) hr) (Mur.byt_blk e8_1 hdl1 (Wk.Chg.hp ch6 (Wk.Chg.hp ch5 hb3 trivial) trivial)) (Mur.byt_rng (Mur.att_tag hk hr (Wk.Chg.hp ch6 (Wk.Chg.hp ch5 (Wk.Chg.hp ch4 (Wk.Chg.hp ch3 (Wk.Chg.hp ch2 hb1 trivial) trivial) ⟨by omega, trivial⟩) trivial) trivial)) ht)).mono ?_
  rintro _ W7 ⟨qj1, rfl, hbj1, hq1, ch7⟩
  have zz7 := ch7.size
  have hBt1 : ∀ g off, (some ⟨qj1, 0, none⟩ : Option Addr) = some ⟨g, off, none⟩ → W6.heap.size ≤ g ∧ g < W7.heap.size := fun g off e => by cases e; exact hq1
  have sS3 := Wk.Chg.step sS2 ch7 trivial
  refine ⟨_, rfl, sS3, ?_⟩
  refine Wk.dVal 9 (some 2) (.slice (some ⟨qj1, 0, none⟩) 104 104) rfl rfl (by kernel_rfl) (by kernel_rfl) (by kernel_rfl) (fun _ _ _ h => h) (by kernel_rfl) (fun w' hw' => by kernel_rfl) sS3 ?_
  refine Wk.dEnd (by kernel_rfl) ?_
  refine Wk.nxt ?_
  refine wp_ret ?_
  have kk1 : Wk.Chg [] w W1 := Wk.Chg.step ((Wk.Chg.refl _).more (by simp)) ch1 trivial
  have kk2 := Wk.Chg.step kk1 ch2 trivial
  have kk3 := Wk.Chg.step kk2 ch3 trivial
  have kk4 := Wk.Chg.step kk3 ch4 ⟨.inr (by omega), trivial⟩
  have kk5 := Wk.Chg.step kk4 ch5 trivial
  have kk6 := Wk.Chg.step kk5 ch6 trivial
  have kk7 := Wk.Chg.step kk6 ch7 trivial
  refine Wk.ret (.slice (some ⟨qj1, 0, none⟩) 104 104) rfl (by kernel_rfl) ?_
  exact ⟨_, _, _, Go.Lib.hid (by rw [hd1.out]; rfl), rfl, hbj1, ⟨by omega, by omega⟩, ⟨by omega, by omega⟩, kk7⟩
theorem Rbytes_any (k r t : List UInt8) (n : Int) (hk : k.length = 32) (hr : r.length = 32) (ht : t.length = 32) (w : World) : Calls Tryd.prog 48 #[.agg (attC k r n t).toArray] w fun e w' => ∃ q cq B, Hid (B = Mur.rawL k r n t) ∧ e = .returned (.slice (some ⟨q, 0, none⟩) 104 cq) ∧ Byt w' (some ⟨q, 0, none⟩) 104 B ∧ (w.heap.size ≤ q ∧ q < w'.heap.size) ∧ (104 ≤ cq ∧ cq ≤ 9223372036854775807) ∧ Wk.Chg [] w w' := by
  refine calls_of_wp Tryd.func48 rfl ?_
  refine wp_seq ?_
  refine Wk.reg ?_
  refine Wk.rEx 0 (some 1) _ rfl rfl (by kernel_rfl) (Wk.new_ex (.pointer (some ⟨w.heap.size, 0, none⟩)) ((Mur.attC k r n t).toArray) 32 (by kernel_rfl)) ?_
  rintro _ W1 ⟨rfl, hb1, ch1, sz1⟩
  have zz1 := ch1.size
  refine Wk.rPure 1 (some 2) (.slice none 0 0) rfl rfl (by kernel_rfl) (by kernel_rfl) ?_
  refine Wk.rEnd 2 rfl ?_
  refine Wk.nxt ?_
  refine wp_seq ?_
  refine Wk.reg ?_
  refine Wk.rPure 0 (some 3) (.slice none 0 0) rfl rfl (by kernel_rfl) (by kernel_rfl) ?_
  refine Wk.rEnd 1 rfl ?_
  refine Wk.nxt ?_
  refine wp_seq ?_
  refine Wk.reg ?_
  refine Wk.rPure 0 (some 4) (.slice none 0 0) rfl rfl (by kernel_rfl) (by kernel_rfl) ?_
  refine Wk.rPure 1 (some 5) (.pointer (some ⟨w.heap.size, 0, none⟩)) rfl rfl (by kernel_rfl) (by kernel_rfl) ?_
  refine Wk.rPure 2 (some 6) (.slice (some ⟨w.heap.size, 0, none⟩) 32 32) rfl rfl (by kernel_rfl) (Mur.arr_slice 30 5 (.tmp 5) 32 rfl Tryd.underlying30 (by kernel_rfl) w.heap.size (by kernel_rfl)) ?_
  have ow1 := Mur.own8_nil W1 W1.heap.size 5
  refine Wk.rEx 3 (some 7) _ rfl rfl (by kernel_rfl) (Mur.append8 (.tmp 4) (.tmp 6) 38 5 rfl Tryd.underlying38 (by kernel_rfl) W1.heap.size none 0 0 ([]) (some ⟨w.heap.size, 0, none⟩) 32 32 k (by kernel_rfl) (by kernel_rfl) ow1.own (Mur.byt_rng (Mur.att_key hb1) hk) (fun h => by cases h) (by omega) (by omega) 32 (by omega) k rfl) ?_
  rintro _ W2 ⟨AA1, nn1, rfl, ow2, ch2, ha1⟩
  have zz2 := ch2.size
  have hq1 := ow2.nc
  have hq2 := ow2.cm
  refine Wk.rPure 4 (some 3) (.slice AA1 32 nn1) rfl rfl (by kernel_rfl) (by kernel_rfl) ?_
  refine Wk.rEnd 5 rfl ?_
  refine Wk.nxt ?_
  refine wp_seq ?_
  refine Wk.reg ?_
  refine Wk.rPure 0 (some 8) (.slice AA1 32 nn1) rfl rfl (by kernel_rfl) (by kernel_rfl) ?_
  refine Wk.rPure 1 (some 9) (.pointer (some ⟨w.heap.size, 32, none⟩)) rfl rfl (by kernel_rfl) (by kernel_rfl) ?_
  refine Wk.rPure 2 (some 10) (.slice (some ⟨w.heap.size, 32, none⟩) 32 32) rfl rfl (by kernel_rfl) (Mur.arr_slice_at 30 5 (.tmp 9) 32 rfl Tryd.underlying30 (by kernel_rfl) w.heap.size 32 (by kernel_rfl)) ?_
  refine Wk.rEx 3 (some 11) _ rfl rfl (by kernel_rfl) (Mur.append8 (.tmp 8) (.tmp 10) 38 5 rfl Tryd.underlying38 (by kernel_rfl) W1.heap.size AA1 32 nn1 k (some ⟨w.heap.size, 32, none⟩) 32 32 r (by kernel_rfl) (by kernel_rfl) ow2.own (Mur.byt_rng (Mur.att_root hk (Wk.Chg.hp ch2 hb1 (Wk.off_blk (fun gz hgz => by have := ow1.lt gz hgz; omega)))) hr) (fun h => by cases h) (by omega) (by omega) 64 (by omega) (k ++ r) rfl) ?_
  rintro _ W3 ⟨AA2, nn2, rfl, ow3, ch3, ha2⟩
  have zz3 := ch3.size
  have hq3 := ow3.nc
  have hq4 := ow3.cm
  refine Wk.rPure 4 (some 3) (.slice AA2 64 nn2) rfl rfl (by kernel_rfl) (by kernel_rfl) ?_
  refine Wk.rEnd 5 rfl ?_
  refine Wk.nxt ?_
  refine wp_seq ?_
  refine Wk.reg ?_
  refine Wk.rPure 0 (some 12) (.slice AA2 64 nn2) rfl rfl (by kernel_rfl) (by kernel_rfl) ?_
  refine Wk.rPure 1 (some 13) (.pointer (some ⟨w.heap.size, 64, none⟩)) rfl rfl (by kernel_rfl) (by kernel_rfl) ?_
  refine Wk.rPure 2 (some 14) (.int .i64 n) rfl rfl (by kernel_rfl) (Wk.load1 3 (.tmp 13) rfl (by kernel_rfl) ⟨w.heap.size, 64, none⟩ (by kernel_rfl) (.int .i64 n) (Mur.att_len hk hr (Wk.Chg.hp ch3 (Wk.Chg.hp ch2 hb1 (Wk.off_blk (fun gz hgz => by have := ow1.lt gz hgz; omega))) (Wk.off_blk (fun gz hgz => by have := ow2.lt gz hgz; omega))))) ?_
  refine Wk.rCall 3 (some 15) 71 [.tmp 14] #[3] [.int .i64 n] rfl rfl (by kernel_rfl) rfl (by kernel_rfl) (by kernel_rfl) ?_
  refine (Reight_any n W3).mono ?_
  rintro _ W4 ⟨qe1, EE1, hE1, rfl, hbe1, hq5, ch4⟩
  have zz4 := ch4.size
  have hBt1 : ∀ g off, (some ⟨qe1, 0, none⟩ : Option Addr) = some ⟨g, off, none⟩ → W3.heap.size ≤ g ∧ g < W4.heap.size := fun g off e => by cases e; exact hq5
  refine ⟨_, rfl, ?_⟩
  have ow4 := Mur.own8 (Wk.own_chg ow3.own ch4 (fun q e _ _ => trivial))
  refine Wk.rEx 4 (some 16) _ rfl rfl (by kernel_rfl) (Mur.append8 (.tmp 12) (.tmp 15) 38 5 rfl Tryd.underlying38 (by kernel_rfl) W1.heap.size AA2 64 nn2 (k ++ r) (some ⟨qe1, 0, none⟩) 8 8 EE1 (by kernel_rfl) (by kernel_rfl) ow4.own hbe1 (fun h => by cases h) (by omega) (by omega) 72 (by omega) ((k ++ r) ++ EE1) rfl) ?_
  rintro _ W5 ⟨AA3, nn3, rfl, ow5, ch5, ha3⟩
  have zz5 := ch5.size
  have hq6 := ow5.nc
  have hq7 := ow5.cm
  refine Wk.rPure 5 (some 3) (.slice AA3 72 nn3) rfl rfl (by kernel_rfl) (by kernel_rfl) ?_
  refine Wk.rEnd 6 rfl ?_
  refine Wk.nxt ?_
  refine wp_seq ?_
  refine Wk.reg ?_
  refine Wk.rPure 0 (some 17) (.slice AA3 72 nn3) rfl rfl (by kernel_rfl) (by kernel_rfl) ?_
  refine Wk.rPure 1 (some 18) (.pointer (some ⟨w.heap.size, 65, none⟩)) rfl rfl (by kernel_rfl) (by kernel_rfl) ?_
  refine Wk.rPure 2 (some 19) (.slice (some ⟨w.heap.size, 65, none⟩) 32 32) rfl rfl (by kernel_rfl) (Mur.arr_slice_at 30 5 (.tmp 18) 32 rfl Tryd.underlying30 (by kernel_rfl) w.heap.size 65 (by kernel_rfl)) ?_
  refine Wk.rEx 3 (some 20) _ rfl rfl (by kernel_rfl) (Mur.append8 (.tmp 17) (.tmp 19) 38 5 rfl Tryd.underlying38 (by kernel_rfl) W1.heap.size AA3 72 nn3 ((k ++ r) ++ EE1) (some ⟨w.heap.size, 65, none⟩) 32 32 t (by kernel_rfl) (by kernel_rfl) ow5.own (Mur.byt_rng (Mur.att_tag hk hr (Wk.Chg.hp ch5 (Wk.Chg.hp ch4 (Wk.Chg.hp ch3 (Wk.Chg.hp ch2 hb1 (Wk.off_blk (fun gz hgz => by have := ow1.lt gz hgz; omega))) (Wk.off_blk (fun gz hgz => by have := ow2.lt gz hgz; omega))) trivial) (Wk.off_blk (fun gz hgz => by have := ow3.lt gz hgz; omega)))) ht) (fun h => by cases h) (by omega) (by omega) 104 (by omega) (((k ++ r) ++ EE1) ++ t) rfl) ?_
  rintro _ W6 ⟨AA4, nn4, rfl, ow6, ch6, ha4⟩
  have zz6 := ch6.size
  have hq8 := ow6.nc
  have hq9 := ow6.cm
  refine Wk.rPure 4 (some 2) (.slice AA4 104 nn4) rfl rfl (by kernel_rfl) (by kernel_rfl) ?_
  refine Wk.rEnd 5 rfl ?_
  refine Wk.nxt ?_
  refine wp_ret ?_
  obtain ⟨q, hq_, hqb, hql⟩ : ∃ g, AA4 = some ⟨g, 0, none⟩ ∧ W1.heap.size ≤ g ∧ g < W6.heap.size := Mur.own8_someq ow6 (by omega)
  subst hq_
  have kk1 : Wk.Chg [] w W1 := Wk.Chg.step ((Wk.Chg.refl _).more (by simp)) ch1 trivial
  have kk2 := Wk.Chg.step kk1 ch2 (Wk.newOr_blk (fun g hg => by have := ow1.lt g hg; omega))
  have kk3 := Wk.Chg.step kk2 ch3 (Wk.newOr_blk (fun g hg => by have := ow2.lt g hg; omega))
  have kk4 := Wk.Chg.step kk3 ch4 trivial
  have kk5 := Wk.Chg.step kk4 ch5 (Wk.newOr_blk (fun g hg => by have := ow3.lt g hg; omega))
  have kk6 := Wk.Chg.step kk5 ch6 (Wk.newOr_blk (fun g hg => by have := ow5.lt g hg; omega))
  refine Wk.ret (.slice (some ⟨q, 0, none⟩) 104 nn4) rfl (by kernel_rfl) ?_
  exact ⟨q, nn4, _, Go.Lib.hid (by rw [hE1.out]; simp only [Mur.rawL, List.append_assoc]), rfl, ow6.byt, ⟨by omega, by omega⟩, ⟨by omega, by have h_ := ow6.cm; unfold Go.maxLen at h_; omega⟩, kk6⟩
theorem Compare_any (A : Option Addr) (n c : Nat) (l : List UInt8) (B : Option Addr) (m d : Nat) (r : List UInt8) (w : World) (hy1 : Byt w A n l) (hy2 : Byt w B m r) : Calls Tryd.prog 79 #[.slice A n c, .slice B m d] w fun e w' => e = .returned (.int .i64 (Go.Lib.compareBytes l r)) ∧ w = w' := by
  refine calls_of_wp Tryd.func79 rfl ?_
  refine wp_seq ?_
  refine Wk.reg ?_
  refine Wk.rPure 0 (some 4) (.int .i64 0) rfl rfl (by kernel_rfl) (by kernel_rfl) ?_
  refine Wk.rEnd 1 rfl ?_
  refine Wk.nxt ?_
  refine wp_seq ?_
  refine Wk.reg ?_
  refine Wk.rPure 0 (some 5) (.slice A n c) rfl rfl (by kernel_rfl) (by kernel_rfl) ?_
  refine Wk.rPure 1 (some 6) (.slice B m d) rfl rfl (by kernel_rfl) (by kernel_rfl) ?_
  refine Wk.rPure 2 (some 7) (.int .i64 (Go.Lib.compareBytes l r)) rfl rfl (by kernel_rfl) (Mur.run_cmp Tryd.func90 (by kernel_rfl) (by kernel_rfl) (by kernel_rfl) (by kernel_rfl) (.tmp 5) (.tmp 6) _ rfl A n c l B m d r (by kernel_rfl) (by kernel_rfl) hy1 hy2) ?_
  refine Wk.rPure 3 (some 4) (.int .i64 (Go.Lib.compareBytes l r)) rfl rfl (by kernel_rfl) (by kernel_rfl) ?_
  refine Wk.rEnd 4 rfl ?_
  refine Wk.nxt ?_
  refine wp_ret ?_
  refine Wk.ret (.int .i64 (Go.Lib.compareBytes l r)) rfl (by kernel_rfl) ?_
  exact ⟨rfl, rfl⟩
theorem Less_any (k1 r1 t1 : List UInt8) (n1 : Int) (hk1 : k1.length = 32) (hr1 : r1.length = 32) (ht1 : t1.length = 32) (k2 r2 t2 : List UInt8) (n2 : Int) (hk2 : k2.length = 32) (hr2 : r2.length = 32) (ht2 : t2.length = 32) (w : World) : Calls Tryd.prog 59 #[.agg (attC k1 r1 n1 t1).toArray, .agg (attC k2 r2 n2 t2).toArray] w fun e w' => e = .returned (.bool (decide (Go.Lib.compareBytes (Mur.rawL k1 r1 n1 t1) (Mur.rawL k2 r2 n2 t2) < 0))) ∧ Wk.Chg [] w w' := by
  refine calls_of_wp Tryd.func59 rfl ?_
  refine wp_seq ?_
  refine Wk.reg ?_
  refine Wk.rEx 0 (some 2) _ rfl rfl (by kernel_rfl) (Wk.new_ex (.pointer (some ⟨w.heap.size, 0, none⟩)) ((Mur.attC k1 r1 n1 t1).toArray) 32 (by kernel_rfl)) ?_
  rintro _ W1 ⟨rfl, hb1, ch1, sz1⟩
  have zz1 := ch1.size
  refine Wk.rEx 1 (some 3) _ rfl rfl (by kernel_rfl) (Wk.new_ex (.pointer (some ⟨W1.heap.size, 0, none⟩)) ((Mur.attC k2 r2 n2 t2).toArray) 32 (by kernel_rfl)) ?_
  rintro _ W2 ⟨rfl, hb2, ch2, sz2⟩
  have zz2 := ch2.size
  refine Wk.rPure 2 (some 4) (.bool false) rfl rfl (by kernel_rfl) (by kernel_rfl) ?_
  refine Wk.rEnd 3 rfl ?_
  refine Wk.nxt ?_
  refine wp_seq ?_
  refine Wk.dReg ([]) (by kernel_rfl) ?_
  intro W3 ch3 sz3
  have zz3 := ch3.size
  have sS1 : Wk.Chg ([]) W3 W3 := (Wk.Chg.refl _).more (by simp)
  refine Wk.dVal 0 (some 5) (.agg ((Mur.attC k1 r1 n1 t1).toArray)) rfl rfl (by kernel_rfl) (by kernel_rfl) (by kernel_rfl) (fun _ _ _ h => h) (by kernel_rfl) (fun w' hw' => (Mur.loadArr 32 (.tmp 2) rfl _ Tryd.underlying32 rfl w.heap.size (by kernel_rfl) (Mur.attC k1 r1 n1 t1).toArray 97 (Mur.attC_size hk1 hr1 ht1) (by kernel_rfl) 32 (0, 0) (Wk.Chg.hp hw' (Wk.Chg.hp ch3 (Wk.Chg.hp ch2 hb1 trivial) trivial) trivial))) sS1 ?_
  refine Wk.dVal 2 (some 7) (.agg ((Mur.attC k2 r2 n2 t2).toArray)) rfl rfl (by kernel_rfl) (by kernel_rfl) (by kernel_rfl) (fun _ _ _ h => h) (by kernel_rfl) (fun w' hw' => (Mur.loadArr 32 (.tmp 3) rfl _ Tryd.underlying32 rfl W1.heap.size (by kernel_rfl) (Mur.attC k2 r2 n2 t2).toArray 97 (Mur.attC_size hk2 hr2 ht2) (by kernel_rfl) 32 (0, 0) (Wk.Chg.hp hw' (Wk.Chg.hp ch3 hb2 trivial) trivial))) sS1 ?_
  refine Wk.dOp 1 (by kernel_rfl) ?_
  refine Wk.oCall (some 6) 61 [.tmp 5] #[32] [.agg ((Mur.attC k1 r1 n1 t1).toArray)] rfl rfl (by kernel_rfl) rfl (by kernel_rfl) (by kernel_rfl) ?_
  refine (raw_any k1 r1 t1 n1 hk1 hr1 ht1 W3).mono ?_
  rintro _ W4 ⟨qr1, cr1, RB1, hRB1, rfl, hbr1, hq1, hq2, ch4⟩
  have zz4 := ch4.size
  have hBt1 : ∀ g off, (some ⟨qr1, 0, none⟩ : Option Addr) = some ⟨g, off, none⟩ → W3.heap.size ≤ g ∧ g < W4.heap.size := fun g off e => by cases e; exact hq1
  have sS2 := Wk.Chg.step sS1 ch4 trivial
  refine ⟨_, rfl, sS2, ?_⟩
  refine Wk.dOp 3 (by kernel_rfl) ?_
  refine Wk.oCall (some 8) 61 [.tmp 7] #[32] [.agg ((Mur.attC k2 r2 n2 t2).toArray)] rfl rfl (by kernel_rfl) rfl (by kernel_rfl) (by kernel_rfl) ?_
  refine (raw_any k2 r2 t2 n2 hk2 hr2 ht2 W4).mono ?_
  rintro _ W5 ⟨qr2, cr2, RB2, hRB2, rfl, hbr2, hq3, hq4, ch5⟩
  have zz5 := ch5.size
  have hBt2 : ∀ g off, (some ⟨qr2, 0, none⟩ : Option Addr) = some ⟨g, off, none⟩ → W4.heap.size ≤ g ∧ g < W5.heap.size := fun g off e => by cases e; exact hq3
  have sS3 := Wk.Chg.step sS2 ch5 trivial
  refine ⟨_, rfl, sS3, ?_⟩
  refine Wk.dOp 4 (by kernel_rfl) ?_
  refine Wk.oCall (some 9) 79 [.tmp 6, .tmp 8] #[38, 38] [.slice (some ⟨qr1, 0, none⟩) 104 cr1, .slice (some ⟨qr2, 0, none⟩) 104 cr2] rfl rfl (by kernel_rfl) rfl (by kernel_rfl) (by kernel_rfl) ?_
  refine (Compare_any (some ⟨qr1, 0, none⟩) 104 cr1 RB1 (some ⟨qr2, 0, none⟩) 104 cr2 RB2 W5 (Mur.byt_chg hbr1 ch5 (fun g off e hl => trivial)) hbr2).mono ?_
  rintro _ _ ⟨rfl, rfl⟩
  refine ⟨_, rfl, sS3, ?_⟩
  by_cases hx1 : (Go.Lib.compareBytes RB1 RB2) < (0 : Int)
  · refine Wk.dVal 5 (some 10) (.bool true) rfl rfl (by kernel_rfl) (by kernel_rfl) (by kernel_rfl) (fun _ _ _ h => h) (by kernel_rfl) (fun w' hw' => (Wk.boolT (b := decide ((Go.Lib.compareBytes RB1 RB2) < (0 : Int))) (decide_eq_true (by first | exact hx1 | omega)) (by kernel_rfl))) sS3 ?_
    refine Wk.dVal 6 (some 4) (.bool true) rfl rfl (by kernel_rfl) (by kernel_rfl) (by kernel_rfl) (fun _ _ _ h => h) (by kernel_rfl) (fun w' hw' => by kernel_rfl) sS3 ?_
    refine Wk.dEnd (by kernel_rfl) ?_
    refine Wk.nxt ?_
    refine wp_ret ?_
    have kk1 : Wk.Chg [] w W1 := Wk.Chg.step ((Wk.Chg.refl _).more (by simp)) ch1 trivial
    have kk2 := Wk.Chg.step kk1 ch2 trivial
    have kk3 := Wk.Chg.step kk2 ch3 trivial
    have kk4 := Wk.Chg.step kk3 ch4 trivial
    have kk5 := Wk.Chg.step kk4 ch5 trivial
    refine Wk.ret (.bool true) rfl (by kernel_rfl) ?_
    exact ⟨by rw [← hRB1.out, ← hRB2.out, decide_eq_true (by assumption)], kk5⟩
  · refine Wk.dVal 5 (some 10) (.bool false) rfl rfl (by kernel_rfl) (by kernel_rfl) (by kernel_rfl) (fun _ _ _ h => h) (by kernel_rfl) (fun w' hw' => (Wk.boolF (b := decide ((Go.Lib.compareBytes RB1 RB2) < (0 : Int))) (decide_eq_false (by first | exact hx1 | omega)) (by kernel_rfl))) sS3 ?_
    refine Wk.dVal 6 (some 4) (.bool false) rfl rfl (by kernel_rfl) (by kernel_rfl) (by kernel_rfl) (fun _ _ _ h => h) (by kernel_rfl) (fun w' hw' => by kernel_rfl) sS3 ?_
    refine Wk.dEnd (by kernel_rfl) ?_
    refine Wk.nxt ?_
    refine wp_ret ?_
    have kk6 : Wk.Chg [] w W1 := Wk.Chg.step ((Wk.Chg.refl _).more (by simp)) ch1 trivial
    have kk7 := Wk.Chg.step kk6 ch2 trivial
    have kk8 := Wk.Chg.step kk7 ch3 trivial
    have kk9 := Wk.Chg.step kk8 ch4 trivial
    have kk10 := Wk.Chg.step kk9 ch5 trivial
    refine Wk.ret (.bool false) rfl (by kernel_rfl) ?_
    exact ⟨by rw [← hRB1.out, ← hRB2.out, decide_eq_false (by assumption)], kk10⟩
end Go.Proofs.YtfhneademopciaaDoor
namespace Go.Proofs.YtfhneademopciaaDoor
open Go.RowKit
open Mur (b8s Byt Own8 Seg Segs flat cutA attC)
set_option maxRecDepth 100000
set_option maxHeartbeats 4000000
theorem Bytes_ok (k r t : List UInt8) (n : Int) (hk : k.length = 32) (hr : r.length = 32) (ht : t.length = 32) (w : World) (hm : Mur.may n) : Calls Tryd.prog 38 #[.agg (attC k r n t).toArray] w fun e w' => ∃ q cq B, Hid (B = Mur.rawL k r n t) ∧ e = .returned (.tuple #[.slice (some ⟨q, 0, none⟩) 104 cq, .int .i64 0]) ∧ Byt w' (some ⟨q, 0, none⟩) 104 B ∧ (w.heap.size ≤ q ∧ q < w'.heap.size) ∧ (104 ≤ cq ∧ cq ≤ 9223372036854775807) ∧ Wk.Chg [] w w' := by
  refine calls_of_wp Tryd.func38 rfl ?_
  refine wp_seq ?_
  refine Wk.reg ?_
  refine Wk.rEx 0 (some 1) _ rfl rfl (by kernel_rfl) (Wk.new_ex (.pointer (some ⟨w.heap.size, 0, none⟩)) ((Mur.attC k r n t).toArray) 32 (by kernel_rfl)) ?_
  rintro _ W1 ⟨rfl, hb1, ch1, sz1⟩
  have zz1 := ch1.size
  refine Wk.rPure 1 (some 2) (.slice none 0 0) rfl rfl (by kernel_rfl) (by kernel_rfl) ?_
  refine Wk.rPure 2 (some 3) (.int .i64 0) rfl rfl (by kernel_rfl) (by kernel_rfl) ?_
  refine Wk.rEnd 3 rfl ?_
  refine Wk.nxt ?_
  refine wp_seq ?_
  refine wp_seq ?_
  refine Wk.reg ?_
  refine Wk.rPure 0 (some 4) (.agg ((Mur.attC k r n t).toArray)) rfl rfl (by kernel_rfl) (Mur.loadArr 32 (.tmp 1) rfl _ Tryd.underlying32 rfl w.heap.size (by kernel_rfl) (Mur.attC k r n t).toArray 97 (Mur.attC_size hk hr ht) (by kernel_rfl) 32 (0, 0) hb1) ?_
  refine Wk.rCall 1 (some 5) 60 [.tmp 4] #[32] [.agg ((Mur.attC k r n t).toArray)] rfl rfl (by kernel_rfl) rfl (by kernel_rfl) (by kernel_rfl) ?_
  refine (may_any k r t n hk hr ht W1).mono ?_
  rw [decide_eq_true (hm : Mur.may n)]
  rintro _ W2 ⟨rfl, ch2⟩
  have zz2 := ch2.size
  refine ⟨_, rfl, ?_⟩
  refine Wk.rPure 2 (some 6) (.bool false) rfl rfl (by kernel_rfl) (by kernel_rfl) ?_
  refine Wk.rEnd 3 rfl ?_
  refine Wk.nxt ?_
  refine wp_cond_false (by kernel_rfl) ?_
  refine wp_skip ?_
  refine Wk.nxt ?_
  refine wp_seq ?_
  refine Wk.reg ?_
  refine Wk.rPure 0 (some 7) (.agg ((Mur.attC k r n t).toArray)) rfl rfl (by kernel_rfl) (Mur.loadArr 32 (.tmp 1) rfl _ Tryd.underlying32 rfl w.heap.size (by kernel_rfl) (Mur.attC k r n t).toArray 97 (Mur.attC_size hk hr ht) (by kernel_rfl) 32 (0, 0) (Wk.Chg.hp ch2 hb1 trivial)) ?_
  refine Wk.rCall 1 (some 8) 61 [.tmp 7] #[32] [.agg ((Mur.attC k r n t).toArray)] rfl rfl (by kernel_rfl) rfl (by kernel_rfl) (by kernel_rfl) ?_
  refine (raw_any k r t n hk hr ht W2).mono ?_
  rintro _ W3 ⟨qr1, cr1, RB1, hRB1, rfl, hbr1, hq1, hq2, ch3⟩
  have zz3 := ch3.size
  have hBt1 : ∀ g off, (some ⟨qr1, 0, none⟩ : Option Addr) = some ⟨g, off, none⟩ → W2.heap.size ≤ g ∧ g < W3.heap.size := fun g off e => by cases e; exact hq1
  refine ⟨_, rfl, ?_⟩
  refine Wk.rPure 2 (some 2) (.slice (some ⟨qr1, 0, none⟩) 104 cr1) rfl rfl (by kernel_rfl) (by kernel_rfl) ?_
  refine Wk.rPure 3 (some 3) (.int .i64 0) rfl rfl (by kernel_rfl) (by kernel_rfl) ?_
  refine Wk.rEnd 4 rfl ?_
  refine Wk.nxt ?_
  refine wp_ret ?_
  have kk1 : Wk.Chg [] w W1 := Wk.Chg.step ((Wk.Chg.refl _).more (by simp)) ch1 trivial
  have kk2 := Wk.Chg.step kk1 ch2 trivial
  have kk3 := Wk.Chg.step kk2 ch3 trivial
  refine Wk.ret (.tuple #[.slice (some ⟨qr1, 0, none⟩) 104 cr1, .int .i64 0]) rfl (by kernel_rfl) ?_
  exact ⟨_, _, _, hRB1, rfl, hbr1, ⟨by omega, by omega⟩, ⟨by omega, by omega⟩, kk3⟩
theorem Bytes_no (k r t : List UInt8) (n : Int) (hk : k.length = 32) (hr : r.length = 32) (ht : t.length = 32) (w : World) (hm : ¬ Mur.may n) : Calls Tryd.prog 38 #[.agg (attC k r n t).toArray] w fun e w' => e = .returned (.tuple #[.slice none 0 0, .int .i64 2]) ∧ Wk.Chg [] w w' := by
  refine calls_of_wp Tryd.func38 rfl ?_
  refine wp_seq ?_
  refine Wk.reg ?_
  refine Wk.rEx 0 (some 1) _ rfl rfl (by kernel_rfl) (Wk.new_ex (.pointer (some ⟨w.heap.size, 0, none⟩)) ((Mur.attC k r n t).toArray) 32 (by kernel_rfl)) ?_
  rintro _ W1 ⟨rfl, hb1, ch1, sz1⟩
  have zz1 := ch1.size
  refine Wk.rPure 1 (some 2) (.slice none 0 0) rfl rfl (by kernel_rfl) (by kernel_rfl) ?_
  refine Wk.rPure 2 (some 3) (.int .i64 0) rfl rfl (by kernel_rfl) (by kernel_rfl) ?_
  refine Wk.rEnd 3 rfl ?_
  refine Wk.nxt ?_
  refine wp_seq ?_
  refine wp_seq ?_
  refine Wk.reg ?_
  refine Wk.rPure 0 (some 4) (.agg ((Mur.attC k r n t).toArray)) rfl rfl (by kernel_rfl) (Mur.loadArr 32 (.tmp 1) rfl _ Tryd.underlying32 rfl w.heap.size (by kernel_rfl) (Mur.attC k r n t).toArray 97 (Mur.attC_size hk hr ht) (by kernel_rfl) 32 (0, 0) hb1) ?_
  refine Wk.rCall 1 (some 5) 60 [.tmp 4] #[32] [.agg ((Mur.attC k r n t).toArray)] rfl rfl (by kernel_rfl) rfl (by kernel_rfl) (by kernel_rfl) ?_
  refine (may_any k r t n hk hr ht W1).mono ?_
  rw [decide_eq_false (hm : ¬ Mur.may n)]
  rintro _ W2 ⟨rfl, ch2⟩
  have zz2 := ch2.size
  refine ⟨_, rfl, ?_⟩
  refine Wk.rPure 2 (some 6) (.bool true) rfl rfl (by kernel_rfl) (by kernel_rfl) ?_
  refine Wk.rEnd 3 rfl ?_
  refine Wk.nxt ?_
  refine wp_cond_true (by kernel_rfl) ?_
  refine wp_seq ?_
  refine Wk.reg ?_
  refine Wk.rPure 0 (some 2) (.slice none 0 0) rfl rfl (by kernel_rfl) (by kernel_rfl) ?_
  refine Wk.rPure 1 (some 3) (.int .i64 2) rfl rfl (by kernel_rfl) (by kernel_rfl) ?_
  refine Wk.rEnd 2 rfl ?_
  refine Wk.nxt ?_
  refine wp_ret ?_
  refine Wk.thR ?_
  have kk1 : Wk.Chg [] w W1 := Wk.Chg.step ((Wk.Chg.refl _).more (by simp)) ch1 trivial
  have kk2 := Wk.Chg.step kk1 ch2 trivial
  refine Wk.ret (.tuple #[.slice none 0 0, .int .i64 2]) rfl (by kernel_rfl) ?_
  exact ⟨rfl, kk2⟩
end Go.Proofs.YtfhneademopciaaDoor
