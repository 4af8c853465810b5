/- attest's document: eight bytes, a body, Make. -/
import Derived.Test.YtljfjjofhclhiaaDoorAtA
namespace Go.Proofs.YtljfjjofhclhiaaDoor
open Go.RowKit
open Mur (b8s Byt Own8 Seg Segs flat cutA attC)
set_option maxRecDepth 100000
set_option maxHeartbeats 4000000
theorem Reight_any (n : Int) (w : World) : Calls Tryd.prog 35 #[.int .i64 n] w fun e w' => ∃ q E, Hid (E = Mur.e8 (Mur.u64n n)) ∧ e = .returned (.slice (some ⟨q, 0, none⟩) 8 8) ∧ Byt w' (some ⟨q, 0, none⟩) 8 E ∧ (w.heap.size ≤ q ∧ q < w'.heap.size) ∧ Wk.Chg [] w w' := by
  refine calls_of_wp Tryd.func35 rfl ?_
  refine wp_seq ?_
  refine Wk.reg ?_
  refine Wk.rPure 0 (some 2) (.slice none 0 0) rfl rfl (by kernel_rfl) (by kernel_rfl) ?_
  refine Wk.rEnd 1 rfl ?_
  refine Wk.nxt ?_
  refine wp_seq ?_
  refine Wk.reg ?_
  refine Wk.rPure 0 (some 6) (.int .i64 n) rfl rfl (by kernel_rfl) (by kernel_rfl) ?_
  refine Wk.rPure 1 (some 7) (.int .u64 ((Mur.u64n n : Nat) : Int)) rfl rfl (by kernel_rfl) (Mur.conv_u64n 3 32 (.tmp 6) rfl (by kernel_rfl) Tryd.underlying32 .i64 n (by kernel_rfl)) ?_
  refine Wk.rPure 2 (some 3) (.int .u64 ((Mur.u64n n : Nat) : Int)) rfl rfl (by kernel_rfl) (by kernel_rfl) ?_
  refine Wk.rEnd 3 rfl ?_
  refine Wk.nxt ?_
  refine wp_seq ?_
  refine Wk.reg ?_
  refine Wk.rEx 0 (some 8) _ rfl rfl (by kernel_rfl) (Wk.new_ex (.slice (some ⟨w.heap.size, 0, none⟩) 8 8) #[.int .u8 0, .int .u8 0, .int .u8 0, .int .u8 0, .int .u8 0, .int .u8 0, .int .u8 0, .int .u8 0] 5 (by kernel_rfl)) ?_
  rintro _ W1 ⟨rfl, hb1, ch1, sz1⟩
  have zz1 := ch1.size
  refine Wk.rPure 1 (some 4) (.slice (some ⟨w.heap.size, 0, none⟩) 8 8) rfl rfl (by kernel_rfl) (by kernel_rfl) ?_
  refine Wk.rEnd 2 rfl ?_
  refine Wk.nxt ?_
  refine wp_seq ?_
  refine wp_seq ?_
  refine Wk.reg ?_
  refine Wk.rPure 0 (some 5) (.int .i64 7) rfl rfl (by kernel_rfl) (by kernel_rfl) ?_
  refine Wk.rEnd 1 rfl ?_
  refine Wk.nxt ?_
  refine wp_block ?_
  refine Wk.loopN 9 ?_
  refine Wk.rdS ?_
  refine wp_seq ?_
  refine wp_seq ?_
  refine Wk.reg ?_
  refine Wk.rPure 0 (some 9) (.int .i64 7) rfl rfl (by kernel_rfl) (by kernel_rfl) ?_
  refine Wk.rPure 1 (some 10) (.bool true) rfl rfl (by kernel_rfl) (Wk.boolT (b := decide ((7 : Int) ≥ (0 : Int))) (decide_eq_true (by decide)) (by kernel_rfl)) ?_
  refine Wk.rEnd 2 rfl ?_
  refine Wk.nxt ?_
  refine wp_cond_true (by kernel_rfl) ?_
  refine wp_skip ?_
  refine Wk.nxt ?_
  refine wp_seq ?_
  refine wp_block ?_
  refine wp_seq ?_
  refine Wk.reg ?_
  refine Wk.rPure 0 (some 13) (.slice (some ⟨w.heap.size, 0, none⟩) 8 8) rfl rfl (by kernel_rfl) (by kernel_rfl) ?_
  refine Wk.rPure 1 (some 14) (.int .i64 7) rfl rfl (by kernel_rfl) (by kernel_rfl) ?_
  refine Wk.rPure 2 (some 15) (.int .u64 ((Mur.u64n n : Nat) : Int)) rfl rfl (by kernel_rfl) (by kernel_rfl) ?_
  refine Wk.rPure 3 (some 16) (.int .u64 ((Mur.u64n n % 256 : Nat) : Int)) rfl rfl (by kernel_rfl) (Mur.rem_u64 32 32 (.tmp 15) (.const (.int .u64 256)) rfl (Mur.u64n n) 256 (by kernel_rfl) (by kernel_rfl) (by omega)) ?_
  refine Wk.rPure 4 (some 17) (.int .u8 ((Mur.u64n n % 256 : Nat) : Int)) rfl rfl (by kernel_rfl) (Mur.conv_int 32 5 (.tmp 16) rfl (by kernel_rfl) .u8 Tryd.underlying5 .u64 ((Mur.u64n n % 256 : Nat) : Int) (by kernel_rfl) (by rw [Mur.u8_mod]; omega)) ?_
  refine Wk.rPure 5 (some 18) (.pointer (some ⟨w.heap.size, 7, none⟩)) rfl rfl (by kernel_rfl) (Wk.index_sl 22 5 (.tmp 13) (.tmp 14) rfl Tryd.underlying22 1 (by kernel_rfl) w.heap.size 0 8 8 7 .i64 (by kernel_rfl) (by kernel_rfl) (by omega)) ?_
  refine Wk.rExS 6 none _ rfl rfl (by kernel_rfl) (Wk.store1 5 (.tmp 18) (.tmp 17) rfl (by kernel_rfl) w.heap.size 7 (by kernel_rfl) (.int .u8 ((Mur.u64n n % 256 : Nat) : Int)) (by kernel_rfl) rfl 5 #[.int .u8 0, .int .u8 0, .int .u8 0, .int .u8 0, .int .u8 0, .int .u8 0, .int .u8 0, .int .u8 0] hb1 (by simp)) ?_
  rintro W2 ⟨hb2, ch2⟩
  replace hb2 : W2.heap[w.heap.size]? = some (.cells #[.int .u8 0, .int .u8 0, .int .u8 0, .int .u8 0, .int .u8 0, .int .u8 0, .int .u8 0, .int .u8 ((Mur.u64n n % 256 : Nat) : Int)] 5 (0, 0)) := hb2
  have zz2 := ch2.size
  refine Wk.rEnd 7 rfl ?_
  refine Wk.nxt ?_
  refine Wk.reg ?_
  refine Wk.rPure 0 (some 19) (.int .u64 ((Mur.u64n n : Nat) : Int)) rfl rfl (by kernel_rfl) (by kernel_rfl) ?_
  refine Wk.rPure 1 (some 20) (.int .u64 ((Mur.u64n n / 256 : Nat) : Int)) rfl rfl (by kernel_rfl) (Mur.quo_u64 32 32 (.tmp 19) (.const (.int .u64 256)) rfl (Mur.u64n n) 256 (by kernel_rfl) (by kernel_rfl) (by omega) (by have := Mur.u64n_lt n; omega)) ?_
  refine Wk.rPure 2 (some 3) (.int .u64 ((Mur.u64n n / 256 : Nat) : Int)) rfl rfl (by kernel_rfl) (by kernel_rfl) ?_
  refine Wk.rEnd 3 rfl ?_
  refine Wk.inN ?_
  refine Wk.nxt ?_
  refine Wk.reg ?_
  refine Wk.rPure 0 (some 11) (.int .i64 7) rfl rfl (by kernel_rfl) (by kernel_rfl) ?_
  refine Wk.rPure 1 (some 12) (.int .i64 6) rfl rfl (by kernel_rfl) (Wk.int64 (n := 7 - 1) (z := 6) (by omega) (by omega) (by omega) (by kernel_rfl)) ?_
  refine Wk.rPure 2 (some 5) (.int .i64 6) rfl rfl (by kernel_rfl) (by kernel_rfl) ?_
  refine Wk.rEnd 3 rfl ?_
  refine Wk.nxt ?_
  refine Wk.rdS ?_
  refine wp_seq ?_
  refine wp_seq ?_
  refine Wk.reg ?_
  refine Wk.rPure 0 (some 9) (.int .i64 6) rfl rfl (by kernel_rfl) (by kernel_rfl) ?_
  refine Wk.rPure 1 (some 10) (.bool true) rfl rfl (by kernel_rfl) (Wk.boolT (b := decide ((6 : Int) ≥ (0 : Int))) (decide_eq_true (by decide)) (by kernel_rfl)) ?_
  refine Wk.rEnd 2 rfl ?_
  refine Wk.nxt ?_
  refine wp_cond_true (by kernel_rfl) ?_
  refine wp_skip ?_
  refine Wk.nxt ?_
  refine wp_seq ?_
  refine wp_block ?_
  refine wp_seq ?_
  refine Wk.reg ?_
  refine Wk.rPure 0 (some 13) (.slice (some ⟨w.heap.size, 0, none⟩) 8 8) rfl rfl (by kernel_rfl) (by kernel_rfl) ?_
  refine Wk.rPure 1 (some 14) (.int .i64 6) rfl rfl (by kernel_rfl) (by kernel_rfl) ?_
  refine Wk.rPure 2 (some 15) (.int .u64 ((Mur.u64n n / 256 : Nat) : Int)) rfl rfl (by kernel_rfl) (by kernel_rfl) ?_
  refine Wk.rPure 3 (some 16) (.int .u64 ((Mur.u64n n / 256 % 256 : Nat) : Int)) rfl rfl (by kernel_rfl) (Mur.rem_u64 32 32 (.tmp 15) (.const (.int .u64 256)) rfl (Mur.u64n n / 256) 256 (by kernel_rfl) (by kernel_rfl) (by omega)) ?_
  refine Wk.rPure 4 (some 17) (.int .u8 ((Mur.u64n n / 256 % 256 : Nat) : Int)) rfl rfl (by kernel_rfl) (Mur.conv_int 32 5 (.tmp 16) rfl (by kernel_rfl) .u8 Tryd.underlying5 .u64 ((Mur.u64n n / 256 % 256 : Nat) : Int) (by kernel_rfl) (by rw [Mur.u8_mod]; omega)) ?_
  refine Wk.rPure 5 (some 18) (.pointer (some ⟨w.heap.size, 6, none⟩)) rfl rfl (by kernel_rfl) (Wk.index_sl 22 5 (.tmp 13) (.tmp 14) rfl Tryd.underlying22 1 (by kernel_rfl) w.heap.size 0 8 8 6 .i64 (by kernel_rfl) (by kernel_rfl) (by omega)) ?_
  refine Wk.rExS 6 none _ rfl rfl (by kernel_rfl) (Wk.store1 5 (.tmp 18) (.tmp 17) rfl (by kernel_rfl) w.heap.size 6 (by kernel_rfl) (.int .u8 ((Mur.u64n n / 256 % 256 : Nat) : Int)) (by kernel_rfl) rfl 5 #[.int .u8 0, .int .u8 0, .int .u8 0, .int .u8 0, .int .u8 0, .int .u8 0, .int .u8 0, .int .u8 ((Mur.u64n n % 256 : Nat) : Int)] hb2 (by simp)) ?_
  rintro W3 ⟨hb3, ch3⟩
  replace hb3 : W3.heap[w.heap.size]? = some (.cells #[.int .u8 0, .int .u8 0, .int .u8 0, .int .u8 0, .int .u8 0, .int .u8 0, .int .u8 ((Mur.u64n n / 256 % 256 : Nat) : Int), .int .u8 ((Mur.u64n n % 256 : Nat) : Int)] 5 (0, 0)) := hb3
  have zz3 := ch3.size
  refine Wk.rEnd 7 rfl ?_
  refine Wk.nxt ?_
  refine Wk.reg ?_
  refine Wk.rPure 0 (some 19) (.int .u64 ((Mur.u64n n / 256 : Nat) : Int)) rfl rfl (by kernel_rfl) (by kernel_rfl) ?_
  refine Wk.rPure 1 (some 20) (.int .u64 ((Mur.u64n n / 256 / 256 : Nat) : Int)) rfl rfl (by kernel_rfl) (Mur.quo_u64 32 32 (.tmp 19) (.const (.int .u64 256)) rfl (Mur.u64n n / 256) 256 (by kernel_rfl) (by kernel_rfl) (by omega) (by have := Mur.u64n_lt n; omega)) ?_
  refine Wk.rPure 2 (some 3) (.int .u64 ((Mur.u64n n / 256 / 256 : Nat) : Int)) rfl rfl (by kernel_rfl) (by kernel_rfl) ?_
  refine Wk.rEnd 3 rfl ?_
  refine Wk.inN ?_
  refine Wk.nxt ?_
  refine Wk.reg ?_
  refine Wk.rPure 0 (some 11) (.int .i64 6) rfl rfl (by kernel_rfl) (by kernel_rfl) ?_
  refine Wk.rPure 1 (some 12) (.int .i64 5) rfl rfl (by kernel_rfl) (Wk.int64 (n := 6 - 1) (z := 5) (by omega) (by omega) (by omega) (by kernel_rfl)) ?_
  refine Wk.rPure 2 (some 5) (.int .i64 5) rfl rfl (by kernel_rfl) (by kernel_rfl) ?_
  refine Wk.rEnd 3 rfl ?_
  refine Wk.nxt ?_
  refine Wk.rdS ?_
  refine wp_seq ?_
  refine wp_seq ?_
  refine Wk.reg ?_
  refine Wk.rPure 0 (some 9) (.int .i64 5) rfl rfl (by kernel_rfl) (by kernel_rfl) ?_
  refine Wk.rPure 1 (some 10) (.bool true) rfl rfl (by kernel_rfl) (Wk.boolT (b := decide ((5 : Int) ≥ (0 : Int))) (decide_eq_true (by decide)) (by kernel_rfl)) ?_
  refine Wk.rEnd 2 rfl ?_
  refine Wk.nxt ?_
  refine wp_cond_true (by kernel_rfl) ?_
  refine wp_skip ?_
  refine Wk.nxt ?_
  refine wp_seq ?_
  refine wp_block ?_
  refine wp_seq ?_
  refine Wk.reg ?_
  refine Wk.rPure 0 (some 13) (.slice (some ⟨w.heap.size, 0, none⟩) 8 8) rfl rfl (by kernel_rfl) (by kernel_rfl) ?_
  refine Wk.rPure 1 (some 14) (.int .i64 5) rfl rfl (by kernel_rfl) (by kernel_rfl) ?_
  refine Wk.rPure 2 (some 15) (.int .u64 ((Mur.u64n n / 256 / 256 : Nat) : Int)) rfl rfl (by kernel_rfl) (by kernel_rfl) ?_
  refine Wk.rPure 3 (some 16) (.int .u64 ((Mur.u64n n / 256 / 256 % 256 : Nat) : Int)) rfl rfl (by kernel_rfl) (Mur.rem_u64 32 32 (.tmp 15) (.const (.int .u64 256)) rfl (Mur.u64n n / 256 / 256) 256 (by kernel_rfl) (by kernel_rfl) (by omega)) ?_
  refine Wk.rPure 4 (some 17) (.int .u8 ((Mur.u64n n / 256 / 256 % 256 : Nat) : Int)) rfl rfl (by kernel_rfl) (Mur.conv_int 32 5 (.tmp 16) rfl (by kernel_rfl) .u8 Tryd.underlying5 .u64 ((Mur.u64n n / 256 / 256 % 256 : Nat) : Int) (by kernel_rfl) (by rw [Mur.u8_mod]; omega)) ?_
  refine Wk.rPure 5 (some 18) (.pointer (some ⟨w.heap.size, 5, none⟩)) rfl rfl (by kernel_rfl) (Wk.index_sl 22 5 (.tmp 13) (.tmp 14) rfl Tryd.underlying22 1 (by kernel_rfl) w.heap.size 0 8 8 5 .i64 (by kernel_rfl) (by kernel_rfl) (by omega)) ?_
  refine Wk.rExS 6 none _ rfl rfl (by kernel_rfl) (Wk.store1 5 (.tmp 18) (.tmp 17) rfl (by kernel_rfl) w.heap.size 5 (by kernel_rfl) (.int .u8 ((Mur.u64n n / 256 / 256 % 256 : Nat) : Int)) (by kernel_rfl) rfl 5 #[.int .u8 0, .int .u8 0, .int .u8 0, .int .u8 0, .int .u8 0, .int .u8 0, .int .u8 ((Mur.u64n n / 256 % 256 : Nat) : Int), .int .u8 ((Mur.u64n n % 256 : Nat) : Int)] hb3 (by simp)) ?_
  rintro W4 ⟨hb4, ch4⟩
  replace hb4 : W4.heap[w.heap.size]? = some (.cells #[.int .u8 0, .int .u8 0, .int .u8 0, .int .u8 0, .int .u8 0, .int .u8 ((Mur.u64n n / 256 / 256 % 256 : Nat) : Int), .int .u8 ((Mur.u64n n / 256 % 256 : Nat) : Int), .int .u8 ((Mur.u64n n % 256 : Nat) : Int)] 5 (0, 0)) := hb4
  have zz4 := ch4.size
  refine Wk.rEnd 7 rfl ?_
  refine Wk.nxt ?_
  refine Wk.reg ?_
  refine Wk.rPure 0 (some 19) (.int .u64 ((Mur.u64n n / 256 / 256 : Nat) : Int)) rfl rfl (by kernel_rfl) (by kernel_rfl) ?_
  refine Wk.rPure 1 (some 20) (.int .u64 ((Mur.u64n n / 256 / 256 / 256 : Nat) : Int)) rfl rfl (by kernel_rfl) (Mur.quo_u64 32 32 (.tmp 19) (.const (.int .u64 256)) rfl (Mur.u64n n / 256 / 256) 256 (by kernel_rfl) (by kernel_rfl) (by omega) (by have := Mur.u64n_lt n; omega)) ?_
  refine Wk.rPure 2 (some 3) (.int .u64 ((Mur.u64n n / 256 / 256 / 256 : Nat) : Int)) rfl rfl (by kernel_rfl) (by kernel_rfl) ?_
  refine Wk.rEnd 3 rfl ?_
  refine Wk.inN ?_
  refine Wk.nxt ?_
  refine Wk.reg ?_
  refine Wk.rPure 0 (some 11) (.int .i64 5) rfl rfl (by kernel_rfl) (by kernel_rfl) ?_
  refine Wk.rPure 1 (some 12) (.int .i64 4) rfl rfl (by kernel_rfl) (Wk.int64 (n := 5 - 1) (z := 4) (by omega) (by omega) (by omega) (by kernel_rfl)) ?_
  refine Wk.rPure 2 (some 5) (.int .i64 4) rfl rfl (by kernel_rfl) (by kernel_rfl) ?_
  refine Wk.rEnd 3 rfl ?_
  refine Wk.nxt ?_
  refine Wk.rdS ?_
  refine wp_seq ?_
  refine wp_seq ?_
  refine Wk.reg ?_
  refine Wk.rPure 0 (some 9) (.int .i64 4) rfl rfl (by kernel_rfl) (by kernel_rfl) ?_
  refine Wk.rPure 1 (some 10) (.bool true) rfl rfl (by kernel_rfl) (Wk.boolT (b := decide ((4 : Int) ≥ (0 : Int))) (decide_eq_true (by decide)) (by kernel_rfl)) ?_
  refine Wk.rEnd 2 rfl ?_
  refine Wk.nxt ?_
  refine wp_cond_true (by kernel_rfl) ?_
  refine wp_skip ?_
  refine Wk.nxt ?_
  refine wp_seq ?_
  refine wp_block ?_
  refine wp_seq ?_
  refine Wk.reg ?_
  refine Wk.rPure 0 (some 13) (.slice (some ⟨w.heap.size, 0, none⟩) 8 8) rfl rfl (by kernel_rfl) (by kernel_rfl) ?_
  refine Wk.rPure 1 (some 14) (.int .i64 4) rfl rfl (by kernel_rfl) (by kernel_rfl) ?_
  refine Wk.rPure 2 (some 15) (.int .u64 ((Mur.u64n n / 256 / 256 / 256 : Nat) : Int)) rfl rfl (by kernel_rfl) (by kernel_rfl) ?_
  refine Wk.rPure 3 (some 16) (.int .u64 ((Mur.u64n n / 256 / 256 / 256 % 256 : Nat) : Int)) rfl rfl (by kernel_rfl) (Mur.rem_u64 32 32 (.tmp 15) (.const (.int .u64 256)) rfl (Mur.u64n n / 256 / 256 / 256) 256 (by kernel_rfl) (by kernel_rfl) (by omega)) ?_
  refine Wk.rPure 4 (some 17) (.int .u8 ((Mur.u64n n / 256 / 256 / 256 % 256 : Nat) : Int)) rfl rfl (by kernel_rfl) (Mur.conv_int 32 5 (.tmp 16) rfl (by kernel_rfl) .u8 Tryd.underlying5 .u64 ((Mur.u64n n / 256 / 256 / 256 % 256 : Nat) : Int) (by kernel_rfl) (by rw [Mur.u8_mod]; omega)) ?_
  refine Wk.rPure 5 (some 18) (.pointer (some ⟨w.heap.size, 4, none⟩)) rfl rfl (by kernel_rfl) (Wk.index_sl 22 5 (.tmp 13) (.tmp 14) rfl Tryd.underlying22 1 (by kernel_rfl) w.heap.size 0 8 8 4 .i64 (by kernel_rfl) (by kernel_rfl) (by omega)) ?_
  refine Wk.rExS 6 none _ rfl rfl (by kernel_rfl) (Wk.store1 5 (.tmp 18) (.tmp 17) rfl (by kernel_rfl) w.heap.size 4 (by kernel_rfl) (.int .u8 ((Mur.u64n n / 256 / 256 / 256 % 256 : Nat) : Int)) (by kernel_rfl) rfl 5 #[.int .u8 0, .int .u8 0, .int .u8 0, .int .u8 0, .int .u8 0, .int .u8 ((Mur.u64n n / 256 / 256 % 256 : Nat) : Int), .int .u8 ((Mur.u64n n / 256 % 256 : Nat) : Int), .int .u8 ((Mur.u64n n % 256 : Nat) : Int)] hb4 (by simp)) ?_
  rintro W5 ⟨hb5, ch5⟩
  replace hb5 : W5.heap[w.heap.size]? = some (.cells #[.int .u8 0, .int .u8 0, .int .u8 0, .int .u8 0, .int .u8 ((Mur.u64n n / 256 / 256 / 256 % 256 : Nat) : Int), .int .u8 ((Mur.u64n n / 256 / 256 % 256 : Nat) : Int), .int .u8 ((Mur.u64n n / 256 % 256 : Nat) : Int), .int .u8 ((Mur.u64n n % 256 : Nat) : Int)] 5 (0, 0)) := hb5
  have zz5 := ch5.size
  refine Wk.rEnd 7 rfl ?_
  refine Wk.nxt ?_
  refine Wk.reg ?_
  refine Wk.rPure 0 (some 19) (.int .u64 ((Mur.u64n n / 256 / 256 / 256 : Nat) : Int)) rfl rfl (by kernel_rfl) (by kernel_rfl) ?_
  refine Wk.rPure 1 (some 20) (.int .u64 ((Mur.u64n n / 256 / 256 / 256 / 256 : Nat) : Int)) rfl rfl (by kernel_rfl) (Mur.quo_u64 32 32 (.tmp 19) (.const (.int .u64 256)) rfl (Mur.u64n n / 256 / 256 / 256) 256 (by kernel_rfl) (by kernel_rfl) (by omega) (by have := Mur.u64n_lt n; omega)) ?_
  refine Wk.rPure 2 (some 3) (.int .u64 ((Mur.u64n n / 256 / 256 / 256 / 256 : Nat) : Int)) rfl rfl (by kernel_rfl) (by kernel_rfl) ?_
  refine Wk.rEnd 3 rfl ?_
  refine Wk.inN ?_
  refine Wk.nxt ?_
  refine Wk.reg ?_
  refine Wk.rPure 0 (some 11) (.int .i64 4) rfl rfl (by kernel_rfl) (by kernel_rfl) ?_
  refine Wk.rPure 1 (some 12) (.int .i64 3) rfl rfl (by kernel_rfl) (Wk.int64 (n := 4 - 1) (z := 3) (by omega) (by omega) (by omega) (by kernel_rfl)) ?_
  refine Wk.rPure 2 (some 5) (.int .i64 3) rfl rfl (by kernel_rfl) (by kernel_rfl) ?_
  refine Wk.rEnd 3 rfl ?_
  refine Wk.nxt ?_
  refine Wk.rdS ?_
  refine wp_seq ?_
  refine wp_seq ?_
  refine Wk.reg ?_
  refine Wk.rPure 0 (some 9) (.int .i64 3) rfl rfl (by kernel_rfl) (by kernel_rfl) ?_
  refine Wk.rPure 1 (some 10) (.bool true) rfl rfl (by kernel_rfl) (Wk.boolT (b := decide ((3 : Int) ≥ (0 : Int))) (decide_eq_true (by decide)) (by kernel_rfl)) ?_
  refine Wk.rEnd 2 rfl ?_
  refine Wk.nxt ?_
  refine wp_cond_true (by kernel_rfl) ?_
  refine wp_skip ?_
  refine Wk.nxt ?_
  refine wp_seq ?_
  refine wp_block ?_
  refine wp_seq ?_
  refine Wk.reg ?_
  refine Wk.rPure 0 (some 13) (.slice (some ⟨w.heap.size, 0, none⟩) 8 8) rfl rfl (by kernel_rfl) (by kernel_rfl) ?_
  refine Wk.rPure 1 (some 14) (.int .i64 3) rfl rfl (by kernel_rfl) (by kernel_rfl) ?_
  refine Wk.rPure 2 (some 15) (.int .u64 ((Mur.u64n n / 256 / 256 / 256 / 256 : Nat) : Int)) rfl rfl (by kernel_rfl) (by kernel_rfl) ?_
  refine Wk.rPure 3 (some 16) (.int .u64 ((Mur.u64n n / 256 / 256 / 256 / 256 % 256 : Nat) : Int)) rfl rfl (by kernel_rfl) (Mur.rem_u64 32 32 (.tmp 15) (.const (.int .u64 256)) rfl (Mur.u64n n / 256 / 256 / 256 / 256) 256 (by kernel_rfl) (by kernel_rfl) (by omega)) ?_
  refine Wk.rPure 4 (some 17) (.int .u8 ((Mur.u64n n / 256 / 256 / 256 / 256 % 256 : Nat) : Int)) rfl rfl (by kernel_rfl) (Mur.conv_int 32 5 (.tmp 16) rfl (by kernel_rfl) .u8 Tryd.underlying5 .u64 ((Mur.u64n n / 256 / 256 / 256 / 256 % 256 : Nat) : Int) (by kernel_rfl) (by rw [Mur.u8_mod]; omega)) ?_
  refine Wk.rPure 5 (some 18) (.pointer (some ⟨w.heap.size, 3, none⟩)) rfl rfl (by kernel_rfl) (Wk.index_sl 22 5 (.tmp 13) (.tmp 14) rfl Tryd.underlying22 1 (by kernel_rfl) w.heap.size 0 8 8 3 .i64 (by kernel_rfl) (by kernel_rfl) (by omega)) ?_
  refine Wk.rExS 6 none _ rfl rfl (by kernel_rfl) (Wk.store1 5 (.tmp 18) (.tmp 17) rfl (by kernel_rfl) w.heap.size 3 (by kernel_rfl) (.int .u8 ((Mur.u64n n / 256 / 256 / 256 / 256 % 256 : Nat) : Int)) (by kernel_rfl) rfl 5 #[.int .u8 0, .int .u8 0, .int .u8 0, .int .u8 0, .int .u8 ((Mur.u64n n / 256 / 256 / 256 % 256 : Nat) : Int), .int .u8 ((Mur.u64n n / 256 / 256 % 256 : Nat) : Int), .int .u8 ((Mur.u64n n / 256 % 256 : Nat) : Int), .int .u8 ((Mur.u64n n % 256 : Nat) : Int)] hb5 (by simp)) ?_
  rintro W6 ⟨hb6, ch6⟩
  replace hb6 : W6.heap[w.heap.size]? = some (.cells #[.int .u8 0, .int .u8 0, .int .u8 0, .int .u8 ((Mur.u64n n / 256 / 256 / 256 / 256 % 256 : Nat) : Int), .int .u8 ((Mur.u64n n / 256 / 256 / 256 % 256 : Nat) : Int), .int .u8 ((Mur.u64n n / 256 / 256 % 256 : Nat) : Int), .int .u8 ((Mur.u64n n / 256 % 256 : Nat) : Int), .int .u8 ((Mur.u64n n % 256 : Nat) : Int)] 5 (0, 0)) := hb6
  have zz6 := ch6.size
  refine Wk.rEnd 7 rfl ?_
  refine Wk.nxt ?_
  refine Wk.reg ?_
  refine Wk.rPure 0 (some 19) (.int .u64 ((Mur.u64n n / 256 / 256 / 256 / 256 : Nat) : Int)) rfl rfl (by kernel_rfl) (by kernel_rfl) ?_
  refine Wk.rPure 1 (some 20) (.int .u64 ((Mur.u64n n / 256 / 256 / 256 / 256 / 256 : Nat) : Int)) rfl rfl (by kernel_rfl) (Mur.quo_u64 32 32 (.tmp 19) (.const (.int .u64 256)) rfl (Mur.u64n n / 256 / 256 / 256 / 256) 256 (by kernel_rfl) (by kernel_rfl) (by omega) (by have := Mur.u64n_lt n; omega)) ?_
  refine Wk.rPure 2 (some 3) (.int .u64 ((Mur.u64n n / 256 / 256 / 256 / 256 / 256 : Nat) : Int)) rfl rfl (by kernel_rfl) (by kernel_rfl) ?_
  refine Wk.rEnd 3 rfl ?_
  refine Wk.inN ?_
  refine Wk.nxt ?_
  refine Wk.reg ?_
  refine Wk.rPure 0 (some 11) (.int .i64 3) rfl rfl (by kernel_rfl) (by kernel_rfl) ?_
  refine Wk.rPure 1 (some 12) (.int .i64 2) rfl rfl (by kernel_rfl) (Wk.int64 (n := 3 - 1) (z := 2) (by omega) (by omega) (by omega) (by kernel_rfl)) ?_
  refine Wk.rPure 2 (some 5) (.int .i64 2) rfl rfl (by kernel_rfl) (by kernel_rfl) ?_
  refine Wk.rEnd 3 rfl ?_
  refine Wk.nxt ?_
  refine Wk.rdS ?_
  refine wp_seq ?_
  refine wp_seq ?_
  refine Wk.reg ?_
  refine Wk.rPure 0 (some 9) (.int .i64 2) rfl rfl (by kernel_rfl) (by kernel_rfl) ?_
  refine Wk.rPure 1 (some 10) (.bool true) rfl rfl (by kernel_rfl) (Wk.boolT (b := decide ((2 : Int) ≥ (0 : Int))) (decide_eq_true (by decide)) (by kernel_rfl)) ?_
  refine Wk.rEnd 2 rfl ?_
  refine Wk.nxt ?_
  refine wp_cond_true (by kernel_rfl) ?_
  refine wp_skip ?_
  refine Wk.nxt ?_
  refine wp_seq ?_
  refine wp_block ?_
  refine wp_seq ?_
  refine Wk.reg ?_
  refine Wk.rPure 0 (some 13) (.slice (some ⟨w.heap.size, 0, none⟩) 8 8) rfl rfl (by kernel_rfl) (by kernel_rfl) ?_
  refine Wk.rPure 1 (some 14) (.int .i64 2) rfl rfl (by kernel_rfl) (by kernel_rfl) ?_
  refine Wk.rPure 2 (some 15) (.int .u64 ((Mur.u64n n / 256 / 256 / 256 / 256 / 256 : Nat) : Int)) rfl rfl (by kernel_rfl) (by kernel_rfl) ?_
  refine Wk.rPure 3 (some 16) (.int .u64 ((Mur.u64n n / 256 / 256 / 256 / 256 / 256 % 256 : Nat) : Int)) rfl rfl (by kernel_rfl) (Mur.rem_u64 32 32 (.tmp 15) (.const (.int .u64 256)) rfl (Mur.u64n n / 256 / 256 / 256 / 256 / 256) 256 (by kernel_rfl) (by kernel_rfl) (by omega)) ?_
  refine Wk.rPure 4 (some 17) (.int .u8 ((Mur.u64n n / 256 / 256 / 256 / 256 / 256 % 256 : Nat) : Int)) rfl rfl (by kernel_rfl) (Mur.conv_int 32 5 (.tmp 16) rfl (by kernel_rfl) .u8 Tryd.underlying5 .u64 ((Mur.u64n n / 256 / 256 / 256 / 256 / 256 % 256 : Nat) : Int) (by kernel_rfl) (by rw [Mur.u8_mod]; omega)) ?_
  refine Wk.rPure 5 (some 18) (.pointer (some ⟨w.heap.size, 2, none⟩)) rfl rfl (by kernel_rfl) (Wk.index_sl 22 5 (.tmp 13) (.tmp 14) rfl Tryd.underlying22 1 (by kernel_rfl) w.heap.size 0 8 8 2 .i64 (by kernel_rfl) (by kernel_rfl) (by omega)) ?_
  refine Wk.rExS 6 none _ rfl rfl (by kernel_rfl) (Wk.store1 5 (.tmp 18) (.tmp 17) rfl (by kernel_rfl) w.heap.size 2 (by kernel_rfl) (.int .u8 ((Mur.u64n n / 256 / 256 / 256 / 256 / 256 % 256 : Nat) : Int)) (by kernel_rfl) rfl 5 #[.int .u8 0, .int .u8 0, .int .u8 0, .int .u8 ((Mur.u64n n / 256 / 256 / 256 / 256 % 256 : Nat) : Int), .int .u8 ((Mur.u64n n / 256 / 256 / 256 % 256 : Nat) : Int), .int .u8 ((Mur.u64n n / 256 / 256 % 256 : Nat) : Int), .int .u8 ((Mur.u64n n / 256 % 256 : Nat) : Int), .int .u8 ((Mur.u64n n % 256 : Nat) : Int)] hb6 (by simp)) ?_
  rintro W7 ⟨hb7, ch7⟩
  replace hb7 : W7.heap[w.heap.size]? = some (.cells #[.int .u8 0, .int .u8 0, .int .u8 ((Mur.u64n n / 256 / 256 / 256 / 256 / 256 % 256 : Nat) : Int), .int .u8 ((Mur.u64n n / 256 / 256 / 256 / 256 % 256 : Nat) : Int), .int .u8 ((Mur.u64n n / 256 / 256 / 256 % 256 : Nat) : Int), .int .u8 ((Mur.u64n n / 256 / 256 % 256 : Nat) : Int), .int .u8 ((Mur.u64n n / 256 % 256 : Nat) : Int), .int .u8 ((Mur.u64n n % 256 : Nat) : Int)] 5 (0, 0)) := hb7
  have zz7 := ch7.size
  refine Wk.rEnd 7 rfl ?_
  refine Wk.nxt ?_
  refine Wk.reg ?_
  refine Wk.rPure 0 (some 19) (.int .u64 ((Mur.u64n n / 256 / 256 / 256 / 256 / 256 : Nat) : Int)) rfl rfl (by kernel_rfl) (by kernel_rfl) ?_
  refine Wk.rPure 1 (some 20) (.int .u64 ((Mur.u64n n / 256 / 256 / 256 / 256 / 256 / 256 : Nat) : Int)) rfl rfl (by kernel_rfl) (Mur.quo_u64 32 32 (.tmp 19) (.const (.int .u64 256)) rfl (Mur.u64n n / 256 / 256 / 256 / 256 / 256) 256 (by kernel_rfl) (by kernel_rfl) (by omega) (by have := Mur.u64n_lt n; omega)) ?_
  refine Wk.rPure 2 (some 3) (.int .u64 ((Mur.u64n n / 256 / 256 / 256 / 256 / 256 / 256 : Nat) : Int)) rfl rfl (by kernel_rfl) (by kernel_rfl) ?_
  refine Wk.rEnd 3 rfl ?_
  refine Wk.inN ?_
  refine Wk.nxt ?_
  refine Wk.reg ?_
  refine Wk.rPure 0 (some 11) (.int .i64 2) rfl rfl (by kernel_rfl) (by kernel_rfl) ?_
  refine Wk.rPure 1 (some 12) (.int .i64 1) rfl rfl (by kernel_rfl) (Wk.int64 (n := 2 - 1) (z := 1) (by omega) (by omega) (by omega) (by kernel_rfl)) ?_
  refine Wk.rPure 2 (some 5) (.int .i64 1) rfl rfl (by kernel_rfl) (by kernel_rfl) ?_
  refine Wk.rEnd 3 rfl ?_
  refine Wk.nxt ?_
  refine Wk.rdS ?_
  refine wp_seq ?_
  refine wp_seq ?_
  refine Wk.reg ?_
  refine Wk.rPure 0 (some 9) (.int .i64 1) rfl rfl (by kernel_rfl) (by kernel_rfl) ?_
  refine Wk.rPure 1 (some 10) (.bool true) rfl rfl (by kernel_rfl) (Wk.boolT (b := decide ((1 : Int) ≥ (0 : Int))) (decide_eq_true (by decide)) (by kernel_rfl)) ?_
  refine Wk.rEnd 2 rfl ?_
  refine Wk.nxt ?_
  refine wp_cond_true (by kernel_rfl) ?_
  refine wp_skip ?_
  refine Wk.nxt ?_
  refine wp_seq ?_
  refine wp_block ?_
  refine wp_seq ?_
  refine Wk.reg ?_
  refine Wk.rPure 0 (some 13) (.slice (some ⟨w.heap.size, 0, none⟩) 8 8) rfl rfl (by kernel_rfl) (by kernel_rfl) ?_
  refine Wk.rPure 1 (some 14) (.int .i64 1) rfl rfl (by kernel_rfl) (by kernel_rfl) ?_
  refine Wk.rPure 2 (some 15) (.int .u64 ((Mur.u64n n / 256 / 256 / 256 / 256 / 256 / 256 : Nat) : Int)) rfl rfl (by kernel_rfl) (by kernel_rfl) ?_
  refine Wk.rPure 3 (some 16) (.int .u64 ((Mur.u64n n / 256 / 256 / 256 / 256 / 256 / 256 % 256 : Nat) : Int)) rfl rfl (by kernel_rfl) (Mur.rem_u64 32 32 (.tmp 15) (.const (.int .u64 256)) rfl (Mur.u64n n / 256 / 256 / 256 / 256 / 256 / 256) 256 (by kernel_rfl) (by kernel_rfl) (by omega)) ?_
  refine Wk.rPure 4 (some 17) (.int .u8 ((Mur.u64n n / 256 / 256 / 256 / 256 / 256 / 256 % 256 : Nat) : Int)) rfl rfl (by kernel_rfl) (Mur.conv_int 32 5 (.tmp 16) rfl (by kernel_rfl) .u8 Tryd.underlying5 .u64 ((Mur.u64n n / 256 / 256 / 256 / 256 / 256 / 256 % 256 : Nat) : Int) (by kernel_rfl) (by rw [Mur.u8_mod]; omega)) ?_
  refine Wk.rPure 5 (some 18) (.pointer (some ⟨w.heap.size, 1, none⟩)) rfl rfl (by kernel_rfl) (Wk.index_sl 22 5 (.tmp 13) (.tmp 14) rfl Tryd.underlying22 1 (by kernel_rfl) w.heap.size 0 8 8 1 .i64 (by kernel_rfl) (by kernel_rfl) (by omega)) ?_
  refine Wk.rExS 6 none _ rfl rfl (by kernel_rfl) (Wk.store1 5 (.tmp 18) (.tmp 17) rfl (by kernel_rfl) w.heap.size 1 (by kernel_rfl) (.int .u8 ((Mur.u64n n / 256 / 256 / 256 / 256 / 256 / 256 % 256 : Nat) : Int)) (by kernel_rfl) rfl 5 #[.int .u8 0, .int .u8 0, .int .u8 ((Mur.u64n n / 256 / 256 / 256 / 256 / 256 % 256 : Nat) : Int), .int .u8 ((Mur.u64n n / 256 / 256 / 256 / 256 % 256 : Nat) : Int), .int .u8 ((Mur.u64n n / 256 / 256 / 256 % 256 : Nat) : Int), .int .u8 ((Mur.u64n n / 256 / 256 % 256 : Nat) : Int), .int .u8 ((Mur.u64n n / 256 % 256 : Nat) : Int), .int .u8 ((Mur.u64n n % 256 : Nat) : Int)] hb7 (by simp)) ?_
  rintro W8 ⟨hb8, ch8⟩
  replace hb8 : W8.heap[w.heap.size]? = some (.cells #[.int .u8 0, .int .u8 ((Mur.u64n n / 256 / 256 / 256 / 256 / 256 / 256 % 256 : Nat) : Int), .int .u8 ((Mur.u64n n / 256 / 256 / 256 / 256 / 256 % 256 : Nat) : Int), .int .u8 ((Mur.u64n n / 256 / 256 / 256 / 256 % 256 : Nat) : Int), .int .u8 ((Mur.u64n n / 256 / 256 / 256 % 256 : Nat) : Int), .int .u8 ((Mur.u64n n / 256 / 256 % 256 : Nat) : Int), .int .u8 ((Mur.u64n n / 256 % 256 : Nat) : Int), .int .u8 ((Mur.u64n n % 256 : Nat) : Int)] 5 (0, 0)) := hb8
  have zz8 := ch8.size
  refine Wk.rEnd 7 rfl ?_
  refine Wk.nxt ?_
  refine Wk.reg ?_
  refine Wk.rPure 0 (some 19) (.int .u64 ((Mur.u64n n / 256 / 256 / 256 / 256 / 256 / 256 : Nat) : Int)) rfl rfl (by kernel_rfl) (by kernel_rfl) ?_
  refine Wk.rPure 1 (some 20) (.int .u64 ((Mur.u64n n / 256 / 256 / 256 / 256 / 256 / 256 / 256 : Nat) : Int)) rfl rfl (by kernel_rfl) (Mur.quo_u64 32 32 (.tmp 19) (.const (.int .u64 256)) rfl (Mur.u64n n / 256 / 256 / 256 / 256 / 256 / 256) 256 (by kernel_rfl) (by kernel_rfl) (by omega) (by have := Mur.u64n_lt n; omega)) ?_
  refine Wk.rPure 2 (some 3) (.int .u64 ((Mur.u64n n / 256 / 256 / 256 / 256 / 256 / 256 / 256 : Nat) : Int)) rfl rfl (by kernel_rfl) (by kernel_rfl) ?_
  refine Wk.rEnd 3 rfl ?_
  refine Wk.inN ?_
  refine Wk.nxt ?_
  refine Wk.reg ?_
  refine Wk.rPure 0 (some 11) (.int .i64 1) rfl rfl (by kernel_rfl) (by kernel_rfl) ?_
  refine Wk.rPure 1 (some 12) (.int .i64 0) rfl rfl (by kernel_rfl) (Wk.int64 (n := 1 - 1) (z := 0) (by omega) (by omega) (by omega) (by kernel_rfl)) ?_
  refine Wk.rPure 2 (some 5) (.int .i64 0) rfl rfl (by kernel_rfl) (by kernel_rfl) ?_
  refine Wk.rEnd 3 rfl ?_
  refine Wk.nxt ?_
  refine Wk.rdS ?_
  refine wp_seq ?_
  refine wp_seq ?_
  refine Wk.reg ?_
  refine Wk.rPure 0 (some 9) (.int .i64 0) rfl rfl (by kernel_rfl) (by kernel_rfl) ?_
  refine Wk.rPure 1 (some 10) (.bool true) rfl rfl (by kernel_rfl) (Wk.boolT (b := decide ((0 : Int) ≥ (0 : Int))) (decide_eq_true (by decide)) (by kernel_rfl)) ?_
  refine Wk.rEnd 2 rfl ?_
  refine Wk.nxt ?_
  refine wp_cond_true (by kernel_rfl) ?_
  refine wp_skip ?_
  refine Wk.nxt ?_
  refine wp_seq ?_
  refine wp_block ?_
  refine wp_seq ?_
  refine Wk.reg ?_
  refine Wk.rPure 0 (some 13) (.slice (some ⟨w.heap.size, 0, none⟩) 8 8) rfl rfl (by kernel_rfl) (by kernel_rfl) ?_
  refine Wk.rPure 1 (some 14) (.int .i64 0) rfl rfl (by kernel_rfl) (by kernel_rfl) ?_
  refine Wk.rPure 2 (some 15) (.int .u64 ((Mur.u64n n / 256 / 256 / 256 / 256 / 256 / 256 / 256 : Nat) : Int)) rfl rfl (by kernel_rfl) (by kernel_rfl) ?_
  refine Wk.rPure 3 (some 16) (.int .u64 ((Mur.u64n n / 256 / 256 / 256 / 256 / 256 / 256 / 256 % 256 : Nat) : Int)) rfl rfl (by kernel_rfl) (Mur.rem_u64 32 32 (.tmp 15) (.const (.int .u64 256)) rfl (Mur.u64n n / 256 / 256 / 256 / 256 / 256 / 256 / 256) 256 (by kernel_rfl) (by kernel_rfl) (by omega)) ?_
  refine Wk.rPure 4 (some 17) (.int .u8 ((Mur.u64n n / 256 / 256 / 256 / 256 / 256 / 256 / 256 % 256 : Nat) : Int)) rfl rfl (by kernel_rfl) (Mur.conv_int 32 5 (.tmp 16) rfl (by kernel_rfl) .u8 Tryd.underlying5 .u64 ((Mur.u64n n / 256 / 256 / 256 / 256 / 256 / 256 / 256 % 256 : Nat) : Int) (by kernel_rfl) (by rw [Mur.u8_mod]; omega)) ?_
  refine Wk.rPure 5 (some 18) (.pointer (some ⟨w.heap.size, 0, none⟩)) rfl rfl (by kernel_rfl) (Wk.index_sl 22 5 (.tmp 13) (.tmp 14) rfl Tryd.underlying22 1 (by kernel_rfl) w.heap.size 0 8 8 0 .i64 (by kernel_rfl) (by kernel_rfl) (by omega)) ?_
  refine Wk.rExS 6 none _ rfl rfl (by kernel_rfl) (Wk.store1 5 (.tmp 18) (.tmp 17) rfl (by kernel_rfl) w.heap.size 0 (by kernel_rfl) (.int .u8 ((Mur.u64n n / 256 / 256 / 256 / 256 / 256 / 256 / 256 % 256 : Nat) : Int)) (by kernel_rfl) rfl 5 #[.int .u8 0, .int .u8 ((Mur.u64n n / 256 / 256 / 256 / 256 / 256 / 256 % 256 : Nat) : Int), .int .u8 ((Mur.u64n n / 256 / 256 / 256 / 256 / 256 % 256 : Nat) : Int), .int .u8 ((Mur.u64n n / 256 / 256 / 256 / 256 % 256 : Nat) : Int), .int .u8 ((Mur.u64n n / 256 / 256 / 256 % 256 : Nat) : Int), .int .u8 ((Mur.u64n n / 256 / 256 % 256 : Nat) : Int), .int .u8 ((Mur.u64n n / 256 % 256 : Nat) : Int), .int .u8 ((Mur.u64n n % 256 : Nat) : Int)] hb8 (by simp)) ?_
  rintro W9 ⟨hb9, ch9⟩
  replace hb9 : W9.heap[w.heap.size]? = some (.cells #[.int .u8 ((Mur.u64n n / 256 / 256 / 256 / 256 / 256 / 256 / 256 % 256 : Nat) : Int), .int .u8 ((Mur.u64n n / 256 / 256 / 256 / 256 / 256 / 256 % 256 : Nat) : Int), .int .u8 ((Mur.u64n n / 256 / 256 / 256 / 256 / 256 % 256 : Nat) : Int), .int .u8 ((Mur.u64n n / 256 / 256 / 256 / 256 % 256 : Nat) : Int), .int .u8 ((Mur.u64n n / 256 / 256 / 256 % 256 : Nat) : Int), .int .u8 ((Mur.u64n n / 256 / 256 % 256 : Nat) : Int), .int .u8 ((Mur.u64n n / 256 % 256 : Nat) : Int), .int .u8 ((Mur.u64n n % 256 : Nat) : Int)] 5 (0, 0)) := hb9
  have zz9 := ch9.size
  refine Wk.rEnd 7 rfl ?_
  refine Wk.nxt ?_
  refine Wk.reg ?_
  refine Wk.rPure 0 (some 19) (.int .u64 ((Mur.u64n n / 256 / 256 / 256 / 256 / 256 / 256 / 256 : Nat) : Int)) rfl rfl (by kernel_rfl) (by kernel_rfl) ?_
  refine Wk.rPure 1 (some 20) (.int .u64 ((Mur.u64n n / 256 / 256 / 256 / 256 / 256 / 256 / 256 / 256 : Nat) : Int)) rfl rfl (by kernel_rfl) (Mur.quo_u64 32 32 (.tmp 19) (.const (.int .u64 256)) rfl (Mur.u64n n / 256 / 256 / 256 / 256 / 256 / 256 / 256) 256 (by kernel_rfl) (by kernel_rfl) (by omega) (by have := Mur.u64n_lt n; omega)) ?_
  refine Wk.rPure 2 (some 3) (.int .u64 ((Mur.u64n n / 256 / 256 / 256 / 256 / 256 / 256 / 256 / 256 : Nat) : Int)) rfl rfl (by kernel_rfl) (by kernel_rfl) ?_
  refine Wk.rEnd 3 rfl ?_
  refine Wk.inN ?_
  refine Wk.nxt ?_
  refine Wk.reg ?_
  refine Wk.rPure 0 (some 11) (.int .i64 0) rfl rfl (by kernel_rfl) (by kernel_rfl) ?_
  refine Wk.rPure 1 (some 12) (.int .i64 (-1)) rfl rfl (by kernel_rfl) (Wk.int64 (n := 0 - 1) (z := -1) (by omega) (by omega) (by omega) (by kernel_rfl)) ?_
  refine Wk.rPure 2 (some 5) (.int .i64 (-1)) rfl rfl (by kernel_rfl) (by kernel_rfl) ?_
  refine Wk.rEnd 3 rfl ?_
  refine Wk.nxt ?_
  refine Wk.rdS ?_
  refine wp_seq ?_
  refine wp_seq ?_
  refine Wk.reg ?_
  refine Wk.rPure 0 (some 9) (.int .i64 (-1)) rfl rfl (by kernel_rfl) (by kernel_rfl) ?_
  refine Wk.rPure 1 (some 10) (.bool false) rfl rfl (by kernel_rfl) (Wk.boolF (b := decide ((-1 : Int) ≥ (0 : Int))) (decide_eq_false (by decide)) (by kernel_rfl)) ?_
  refine Wk.rEnd 2 rfl ?_
  refine Wk.nxt ?_
  refine wp_cond_false (by kernel_rfl) ?_
  refine wp_exit ?_
  refine Wk.thX ?_
  refine Wk.thX ?_
  refine Wk.inX ?_
  refine Wk.nxt ?_
  refine wp_seq ?_
  refine Wk.reg ?_
  refine Wk.rPure 0 (some 21) (.slice (some ⟨w.heap.size, 0, none⟩) 8 8) rfl rfl (by kernel_rfl) (by kernel_rfl) ?_
  refine Wk.rPure 1 (some 2) (.slice (some ⟨w.heap.size, 0, none⟩) 8 8) rfl rfl (by kernel_rfl) (by kernel_rfl) ?_
  refine Wk.rEnd 2 rfl ?_
  refine Wk.nxt ?_
  refine wp_ret ?_
  have hfin := hb9
  rw [Mur.e8_quo] at hfin
  have kk1 : Wk.Chg [] w W1 := Wk.Chg.step ((Wk.Chg.refl _).more (by simp)) ch1 trivial
  have kk2 := Wk.Chg.step kk1 ch2 ⟨.inr (by omega), trivial⟩
  have kk3 := Wk.Chg.step kk2 ch3 ⟨.inr (by omega), trivial⟩
  have kk4 := Wk.Chg.step kk3 ch4 ⟨.inr (by omega), trivial⟩
  have kk5 := Wk.Chg.step kk4 ch5 ⟨.inr (by omega), trivial⟩
  have kk6 := Wk.Chg.step kk5 ch6 ⟨.inr (by omega), trivial⟩
  have kk7 := Wk.Chg.step kk6 ch7 ⟨.inr (by omega), trivial⟩
  have kk8 := Wk.Chg.step kk7 ch8 ⟨.inr (by omega), trivial⟩
  have kk9 := Wk.Chg.step kk8 ch9 ⟨.inr (by omega), trivial⟩
  refine Wk.ret (.slice (some ⟨w.heap.size, 0, none⟩) 8 8) rfl (by kernel_rfl) ?_
  exact ⟨w.heap.size, _, Go.Lib.hid rfl, rfl, Mur.byt_blk _ (Mur.e8_length _) hfin, ⟨by omega, by omega⟩, kk9⟩
theorem Rbody_any (k r : List UInt8) (n : Int) (hk : k.length = 32) (hr : r.length = 32) (w : World) : Calls Tryd.prog 22 #[.agg (b8s k).toArray, .agg (b8s r).toArray, .int .i64 n] w fun e w' => ∃ q cq B, Hid (B = Mur.body k r n) ∧ e = .returned (.slice (some ⟨q, 0, none⟩) 73 cq) ∧ Byt w' (some ⟨q, 0, none⟩) 73 B ∧ (w.heap.size ≤ q ∧ q < w'.heap.size) ∧ 73 ≤ cq ∧ Wk.Chg [] w w' := by
  refine calls_of_wp Tryd.func22 rfl ?_
  refine wp_seq ?_
  refine Wk.reg ?_
  refine Wk.rEx 0 (some 3) _ rfl rfl (by kernel_rfl) (Wk.new_ex (.pointer (some ⟨w.heap.size, 0, none⟩)) ((b8s k).toArray) 25 (by kernel_rfl)) ?_
  rintro _ W1 ⟨rfl, hb1, ch1, sz1⟩
  have zz1 := ch1.size
  refine Wk.rEx 1 (some 4) _ rfl rfl (by kernel_rfl) (Wk.new_ex (.pointer (some ⟨W1.heap.size, 0, none⟩)) ((b8s r).toArray) 25 (by kernel_rfl)) ?_
  rintro _ W2 ⟨rfl, hb2, ch2, sz2⟩
  have zz2 := ch2.size
  refine Wk.rPure 2 (some 6) (.slice none 0 0) rfl rfl (by kernel_rfl) (by kernel_rfl) ?_
  refine Wk.rEnd 3 rfl ?_
  refine Wk.nxt ?_
  refine wp_seq ?_
  refine Wk.reg ?_
  refine Wk.rEx 0 (some 8) _ rfl rfl (by kernel_rfl) (Wk.new_ex (.slice (some ⟨W2.heap.size, 0, none⟩) 1 1) #[.int .u8 17] 5 (by kernel_rfl)) ?_
  rintro _ W3 ⟨rfl, hb3, ch3, sz3⟩
  have zz3 := ch3.size
  refine Wk.rPure 1 (some 7) (.slice (some ⟨W2.heap.size, 0, none⟩) 1 1) rfl rfl (by kernel_rfl) (by kernel_rfl) ?_
  refine Wk.rEnd 2 rfl ?_
  refine Wk.nxt ?_
  refine wp_seq ?_
  refine Wk.reg ?_
  refine Wk.rPure 0 (some 9) (.slice (some ⟨W2.heap.size, 0, none⟩) 1 1) rfl rfl (by kernel_rfl) (by kernel_rfl) ?_
  refine Wk.rPure 1 (some 10) (.slice (some ⟨w.heap.size, 0, none⟩) 32 32) rfl rfl (by kernel_rfl) (Mur.arr_slice 25 5 (.tmp 3) 32 rfl Tryd.underlying25 (by kernel_rfl) w.heap.size (by kernel_rfl)) ?_
  have ow1 : Mur.Own8 W3 W2.heap.size 5 (some ⟨W2.heap.size, 0, none⟩) 1 1 [17] := Mur.own8_lit hb3 (Nat.le_refl _) rfl (by omega)
  refine Wk.rEx 2 (some 11) _ rfl rfl (by kernel_rfl) (Mur.append8 (.tmp 9) (.tmp 10) 22 5 rfl Tryd.underlying22 (by kernel_rfl) W2.heap.size (some ⟨W2.heap.size, 0, none⟩) 1 1 ([17]) (some ⟨w.heap.size, 0, none⟩) 32 32 k (by kernel_rfl) (by kernel_rfl) ow1.own (Mur.byt_blk k hk (Wk.Chg.hp ch3 (Wk.Chg.hp ch2 hb1 trivial) trivial)) (fun h => by cases h) (by omega) (by omega) 33 (by omega) (([17]) ++ k) rfl) ?_
  rintro _ W4 ⟨AA1, nn1, rfl, ow2, ch4, ha1⟩
  have zz4 := ch4.size
  have hq1 := ow2.nc
  have hq2 := ow2.cm
  refine Wk.rPure 3 (some 7) (.slice AA1 33 nn1) rfl rfl (by kernel_rfl) (by kernel_rfl) ?_
  refine Wk.rEnd 4 rfl ?_
  refine Wk.nxt ?_
  refine wp_seq ?_
  refine Wk.reg ?_
  refine Wk.rPure 0 (some 12) (.slice AA1 33 nn1) rfl rfl (by kernel_rfl) (by kernel_rfl) ?_
  refine Wk.rPure 1 (some 13) (.slice (some ⟨W1.heap.size, 0, none⟩) 32 32) rfl rfl (by kernel_rfl) (Mur.arr_slice 25 5 (.tmp 4) 32 rfl Tryd.underlying25 (by kernel_rfl) W1.heap.size (by kernel_rfl)) ?_
  refine Wk.rEx 2 (some 14) _ rfl rfl (by kernel_rfl) (Mur.append8 (.tmp 12) (.tmp 13) 22 5 rfl Tryd.underlying22 (by kernel_rfl) W2.heap.size AA1 33 nn1 (([17]) ++ k) (some ⟨W1.heap.size, 0, none⟩) 32 32 r (by kernel_rfl) (by kernel_rfl) ow2.own (Mur.byt_blk r hr (Wk.Chg.hp ch4 (Wk.Chg.hp ch3 hb2 trivial) (Wk.off_blk (fun gz hgz => by have := ow1.lt gz hgz; omega)))) (fun h => by cases h) (by omega) (by omega) 65 (by omega) ((([17]) ++ k) ++ r) rfl) ?_
  rintro _ W5 ⟨AA2, nn2, rfl, ow3, ch5, ha2⟩
  have zz5 := ch5.size
  have hq3 := ow3.nc
  have hq4 := ow3.cm
  refine Wk.rPure 3 (some 7) (.slice AA2 65 nn2) rfl rfl (by kernel_rfl) (by kernel_rfl) ?_
  refine Wk.rEnd 4 rfl ?_
  refine Wk.nxt ?_
  refine wp_seq ?_
  refine Wk.reg ?_
  refine Wk.rPure 0 (some 15) (.slice AA2 65 nn2) rfl rfl (by kernel_rfl) (by kernel_rfl) ?_
  refine Wk.rPure 1 (some 16) (.int .i64 n) rfl rfl (by kernel_rfl) (by kernel_rfl) ?_
  refine Wk.rCall 2 (some 17) 35 [.tmp 16] #[3] [.int .i64 n] rfl rfl (by kernel_rfl) rfl (by kernel_rfl) (by kernel_rfl) ?_
  refine (Reight_any n W5).mono ?_
  rintro _ W6 ⟨qe1, EE1, hE1, rfl, hbe1, hq5, ch6⟩
  have zz6 := ch6.size
  have hBt1 : ∀ g off, (some ⟨qe1, 0, none⟩ : Option Addr) = some ⟨g, off, none⟩ → W5.heap.size ≤ g ∧ g < W6.heap.size := fun g off e => by cases e; exact hq5
  refine ⟨_, rfl, ?_⟩
  have ow4 := Mur.own8 (Wk.own_chg ow3.own ch6 (fun q e _ _ => trivial))
  refine Wk.rEx 3 (some 18) _ rfl rfl (by kernel_rfl) (Mur.append8 (.tmp 15) (.tmp 17) 22 5 rfl Tryd.underlying22 (by kernel_rfl) W2.heap.size AA2 65 nn2 ((([17]) ++ k) ++ r) (some ⟨qe1, 0, none⟩) 8 8 EE1 (by kernel_rfl) (by kernel_rfl) ow4.own hbe1 (fun h => by cases h) (by omega) (by omega) 73 (by omega) (((([17]) ++ k) ++ r) ++ EE1) rfl) ?_
  rintro _ W7 ⟨AA3, nn3, rfl, ow5, ch7, ha3⟩
  have zz7 := ch7.size
  have hq6 := ow5.nc
  have hq7 := ow5.cm
  refine Wk.rPure 4 (some 6) (.slice AA3 73 nn3) rfl rfl (by kernel_rfl) (by kernel_rfl) ?_
  refine Wk.rEnd 5 rfl ?_
  refine Wk.nxt ?_
  refine wp_ret ?_
  obtain ⟨q, hq_, hqb, hql⟩ : ∃ g, AA3 = some ⟨g, 0, none⟩ ∧ W2.heap.size ≤ g ∧ g < W7.heap.size := Mur.Own8.some ow5 (by omega)
  subst hq_
  have kk1 : Wk.Chg [] w W1 := Wk.Chg.step ((Wk.Chg.refl _).more (by simp)) ch1 trivial
  have kk2 := Wk.Chg.step kk1 ch2 trivial
  have kk3 := Wk.Chg.step kk2 ch3 trivial
  have kk4 := Wk.Chg.step kk3 ch4 (Wk.newOr_blk (fun g hg => by have := ow1.lt g hg; omega))
  have kk5 := Wk.Chg.step kk4 ch5 (Wk.newOr_blk (fun g hg => by have := ow2.lt g hg; omega))
  have kk6 := Wk.Chg.step kk5 ch6 trivial
  have kk7 := Wk.Chg.step kk6 ch7 (Wk.newOr_blk (fun g hg => by have := ow3.lt g hg; omega))
  refine Wk.ret (.slice (some ⟨q, 0, none⟩) 73 nn3) rfl (by kernel_rfl) ?_
  exact ⟨q, nn3, _, Go.Lib.hid (by rw [hE1.out]; simp only [Mur.body, List.append_assoc]), rfl, ow5.byt, ⟨by omega, by omega⟩, by omega, kk7⟩
theorem Rmake_any (s : List UInt8) (A : Option Addr) (m c : Nat) (k r : List UInt8) (n : Int) (hk : k.length = 32) (hr : r.length = 32) (w : World) (hb : Byt w A m s) (hnc : m ≤ c) (ha : A = none → c = 0) (hn : m ≤ 140737488351232) : Calls Tryd.prog 19 #[.slice A m c, .agg (b8s k).toArray, .agg (b8s r).toArray, .int .i64 n] w fun e w' => ∃ d, Hid (d = Mur.hmac s (Mur.body k r n)) ∧ d.length = 32 ∧ e = .returned (.agg (attC k r n d).toArray) ∧ Wk.Chg [] w w' := by
  have HBY := Go.Lib.hid hb
  clear hb
  have HA := Go.Lib.hid ha
  clear ha
  refine calls_of_wp Tryd.func19 rfl ?_
  refine wp_seq ?_
  refine Wk.reg ?_
  refine Wk.rEx 0 (some 5) _ rfl rfl (by kernel_rfl) (Wk.new_ex (.pointer (some ⟨w.heap.size, 0, none⟩)) ((b8s k).toArray) 25 (by kernel_rfl)) ?_
  rintro _ W1 ⟨rfl, hb1, ch1, sz1⟩
  have zz1 := ch1.size
  refine Wk.rEx 1 (some 6) _ rfl rfl (by kernel_rfl) (Wk.new_ex (.pointer (some ⟨W1.heap.size, 0, none⟩)) ((b8s r).toArray) 25 (by kernel_rfl)) ?_
  rintro _ W2 ⟨rfl, hb2, ch2, sz2⟩
  have zz2 := ch2.size
  refine Wk.rEx 2 (some 8) _ rfl rfl (by kernel_rfl) (Wk.new_ex (.pointer (some ⟨W2.heap.size, 0, none⟩)) #[.int .u8 0, .int .u8 0, .int .u8 0, .int .u8 0, .int .u8 0, .int .u8 0, .int .u8 0, .int .u8 0, .int .u8 0, .int .u8 0, .int .u8 0, .int .u8 0, .int .u8 0, .int .u8 0, .int .u8 0, .int .u8 0, .int .u8 0, .int .u8 0, .int .u8 0, .int .u8 0, .int .u8 0, .int .u8 0, .int .u8 0, .int .u8 0, .int .u8 0, .int .u8 0, .int .u8 0, .int .u8 0, .int .u8 0, .int .u8 0, .int .u8 0, .int .u8 0, .int .u8 0, .int .u8 0, .int .u8 0, .int .u8 0, .int .u8 0, .int .u8 0, .int .u8 0, .int .u8 0, .int .u8 0, .int .u8 0, .int .u8 0, .int .u8 0, .int .u8 0, .int .u8 0, .int .u8 0, .int .u8 0, .int .u8 0, .int .u8 0, .int .u8 0, .int .u8 0, .int .u8 0, .int .u8 0, .int .u8 0, .int .u8 0, .int .u8 0, .int .u8 0, .int .u8 0, .int .u8 0, .int .u8 0, .int .u8 0, .int .u8 0, .int .u8 0, .int .i64 0, .int .u8 0, .int .u8 0, .int .u8 0, .int .u8 0, .int .u8 0, .int .u8 0, .int .u8 0, .int .u8 0, .int .u8 0, .int .u8 0, .int .u8 0, .int .u8 0, .int .u8 0, .int .u8 0, .int .u8 0, .int .u8 0, .int .u8 0, .int .u8 0, .int .u8 0, .int .u8 0, .int .u8 0, .int .u8 0, .int .u8 0, .int .u8 0, .int .u8 0, .int .u8 0, .int .u8 0, .int .u8 0, .int .u8 0, .int .u8 0, .int .u8 0, .int .u8 0] 36 (by kernel_rfl)) ?_
  rintro _ W3 ⟨rfl, hb3, ch3, sz3⟩
  have zz3 := ch3.size
  rw [← Mur.attC_zero] at hb3
  refine Wk.rEnd 3 rfl ?_
  refine Wk.nxt ?_
  refine wp_seq ?_
  refine Wk.dReg ([W2.heap.size]) (by kernel_rfl) ?_
  intro W4 ch4 sz4
  have zz4 := ch4.size
  have sS1 : Wk.Chg ([W2.heap.size]) W4 W4 := (Wk.Chg.refl _).more (by simp)
  refine Wk.dVal 0 (some 9) (.agg ((b8s k).toArray)) rfl rfl (by kernel_rfl) (by kernel_rfl) (by kernel_rfl) (fun _ _ _ h => h) (by kernel_rfl) (fun w' hw' => (Mur.loadAll 25 (.tmp 5) rfl _ Tryd.underlying25 rfl w.heap.size (by kernel_rfl) k 32 hk (by kernel_rfl) 25 (0, 0) (Wk.Chg.hp hw' (Wk.Chg.hp ch4 (Wk.Chg.hp ch3 (Wk.Chg.hp ch2 hb1 trivial) trivial) trivial) ⟨by omega, trivial⟩))) sS1 ?_
  refine Wk.dVal 1 (some 10) (.agg ((b8s r).toArray)) rfl rfl (by kernel_rfl) (by kernel_rfl) (by kernel_rfl) (fun _ _ _ h => h) (by kernel_rfl) (fun w' hw' => (Mur.loadAll 25 (.tmp 6) rfl _ Tryd.underlying25 rfl W1.heap.size (by kernel_rfl) r 32 hr (by kernel_rfl) 25 (0, 0) (Wk.Chg.hp hw' (Wk.Chg.hp ch4 (Wk.Chg.hp ch3 hb2 trivial) trivial) ⟨by omega, trivial⟩))) sS1 ?_
  refine Wk.dVal 2 (some 11) (.int .i64 n) rfl rfl (by kernel_rfl) (by kernel_rfl) (by kernel_rfl) (fun _ _ _ h => h) (by kernel_rfl) (fun w' hw' => by kernel_rfl) sS1 ?_
  refine Wk.dVal 3 (some 12) (.slice A m c) rfl rfl (by kernel_rfl) (by kernel_rfl) (by kernel_rfl) (fun _ _ _ h => h) (by kernel_rfl) (fun w' hw' => by kernel_rfl) sS1 ?_
  refine Wk.dVal 4 (some 13) (.agg ((b8s k).toArray)) rfl rfl (by kernel_rfl) (by kernel_rfl) (by kernel_rfl) (fun _ _ _ h => h) (by kernel_rfl) (fun w' hw' => (Mur.loadAll 25 (.tmp 5) rfl _ Tryd.underlying25 rfl w.heap.size (by kernel_rfl) k 32 hk (by kernel_rfl) 25 (0, 0) (Wk.Chg.hp hw' (Wk.Chg.hp ch4 (Wk.Chg.hp ch3 (Wk.Chg.hp ch2 hb1 trivial) trivial) trivial) ⟨by omega, trivial⟩))) sS1 ?_
  refine Wk.dVal 5 (some 14) (.agg ((b8s r).toArray)) rfl rfl (by kernel_rfl) (by kernel_rfl) (by kernel_rfl) (fun _ _ _ h => h) (by kernel_rfl) (fun w' hw' => (Mur.loadAll 25 (.tmp 6) rfl _ Tryd.underlying25 rfl W1.heap.size (by kernel_rfl) r 32 hr (by kernel_rfl) 25 (0, 0) (Wk.Chg.hp hw' (Wk.Chg.hp ch4 (Wk.Chg.hp ch3 hb2 trivial) trivial) ⟨by omega, trivial⟩))) sS1 ?_
  refine Wk.dVal 6 (some 15) (.int .i64 n) rfl rfl (by kernel_rfl) (by kernel_rfl) (by kernel_rfl) (fun _ _ _ h => h) (by kernel_rfl) (fun w' hw' => by kernel_rfl) sS1 ?_
  refine Wk.dOp 7 (by kernel_rfl) ?_
  refine Wk.oCall (some 16) 22 [.tmp 13, .tmp 14, .tmp 15] #[25, 25, 3] [.agg ((b8s k).toArray), .agg ((b8s r).toArray), .int .i64 n] rfl rfl (by kernel_rfl) rfl (by kernel_rfl) (by kernel_rfl) ?_
  refine (Rbody_any k r n hk hr W4).mono ?_
  rintro _ W5 ⟨qb1, cb1, BB1, hBB1, rfl, hbb1, hq1, hq2, ch5⟩
  have zz5 := ch5.size
  have hBt1 : ∀ g off, (some ⟨qb1, 0, none⟩ : Option Addr) = some ⟨g, off, none⟩ → W4.heap.size ≤ g ∧ g < W5.heap.size := fun g off e => by cases e; exact hq1
  have sS2 := Wk.Chg.step sS1 ch5 trivial
  refine ⟨_, rfl, sS2, ?_⟩
  refine Wk.dOp 8 (by kernel_rfl) ?_
  refine Wk.oCall (some 17) 14 [.tmp 12, .tmp 16] #[22, 22] [.slice A m c, .slice (some ⟨qb1, 0, none⟩) 73 cb1] rfl rfl (by kernel_rfl) rfl (by kernel_rfl) (by kernel_rfl) ?_
  have kk1 : Wk.Chg [] w W1 := Wk.Chg.step ((Wk.Chg.refl _).more (by simp)) ch1 trivial
  have kk2 := Wk.Chg.step kk1 ch2 trivial
  have kk3 := Wk.Chg.step kk2 ch3 trivial
  have kk4 := Wk.Chg.step kk3 ch4 trivial
  have kk5 := Wk.Chg.step kk4 ch5 trivial
  refine (Rtag_any s A m c BB1 (some ⟨qb1, 0, none⟩) 73 cb1 W5 (Mur.byt_chg HBY.out kk5 (fun g off e hl => trivial)) (by omega) HA.out (by omega) hbb1 (fun h => by cases h) (by omega)).mono ?_
  rintro _ W6 ⟨dd1, hd1, hdl1, rfl, ch6⟩
  have zz6 := ch6.size
  have sS3 := Wk.Chg.step sS2 ch6 trivial
  refine ⟨_, rfl, sS3, ?_⟩
  refine Wk.dVal 9 (some 18) (.agg ((Mur.attC k r n dd1).toArray)) rfl rfl (by kernel_rfl) (by kernel_rfl) (by kernel_rfl) (fun _ _ _ h => h) (by kernel_rfl) (fun w' hw' => (Mur.run_built 36 _ rfl [(0, .agg ((b8s k).toArray)), (1, .agg ((b8s r).toArray)), (2, .int .i64 n), (3, .agg ((b8s dd1).toArray))] (by kernel_rfl) _ (built4 hk hr hdl1))) sS3 ?_
  refine Wk.dOp 10 (by kernel_rfl) ?_
  refine Wk.oExS none _ rfl rfl (by kernel_rfl) (Mur.storeArr 36 (.tmp 8) (.tmp 18) rfl W2.heap.size (by kernel_rfl) (Mur.attC k r n dd1).toArray 97 (Mur.attC_size hk hr hdl1) Mur.attC_all (by kernel_rfl) (by kernel_rfl) 36 ((Mur.attC Mur.z32 Mur.z32 0 Mur.z32).toArray) (Wk.Chg.hp ch6 (Wk.Chg.hp ch5 (Wk.Chg.hp ch4 hb3 trivial) trivial) trivial) (Mur.attC_size rfl rfl rfl)) ?_
  rintro W7 ⟨hb4, ch7⟩
  have zz7 := ch7.size
  have sS4 := Wk.Chg.step sS3 ch7 ⟨.inl (by simp), trivial⟩
  refine ⟨sS4, ?_⟩
  refine Wk.dEnd (by kernel_rfl) ?_
  refine Wk.nxt ?_
  refine wp_ret ?_
  have kk6 := Wk.Chg.step kk5 ch6 trivial
  have kk7 := Wk.Chg.step kk6 ch7 ⟨.inr (by omega), trivial⟩
  refine Wk.ret (.agg (Mur.attC k r n dd1).toArray) rfl (results_cell_row rfl _ _ W2.heap.size 36 (Mur.attC k r n dd1).toArray (0, 0) _ (by kernel_rfl) hb4 Tryd.underlying36 rfl (by rw [(Mur.attC_size hk hr hdl1)]; kernel_rfl)) ?_
  exact ⟨_, Go.Lib.hid (by rw [hd1.out, hBB1.out]), hdl1, rfl, kk7⟩
end Go.Proofs.YtljfjjofhclhiaaDoor
