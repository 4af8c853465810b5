/- What the row rests on, part 4. -/
import Derived.RangeFuncMany
import Derived.RangeFuncCalls
import Derived.RangeFuncKeeps
import Derived.TacticsIn
import Derived.OrdersIn
import Derived.Scope
import Derived.Lib.Overlaps
import Derived.Lib.AppendZerosOnto
import Derived.Test.YtgbadghjnpbiaaaDoorRO3
import Derived.Test.YtgbadghjnpbiaaaDoorRO2
namespace Go.Proofs.YtgbadghjnpbiaaaDoor
open Go.RowKit Wk
open Mur (b8s Byt Own8 Seg Segs flat cutA attC)
set_option maxRecDepth 100000
set_option maxHeartbeats 4000000
theorem may_any (k r t : List UInt8) (n : Int) (hk : k.length = 32) (hr : r.length = 32) (_ht : t.length = 32) (w : World) : Calls Tryd.prog 74 #[.agg (attC k r n t).toArray] w fun e w' => e = .returned (.bool (decide (Mur.may n))) ∧ Chg [] w w' := by
 refine calls_of_wp Tryd.func74 rfl ?_
 refine wp_seq (reg ?_)
 refine rX 0 1 rfl rfl (new_ex (pt w.heap.size 0) ((Mur.attC k r n t).toArray) 36 (by kernel_rfl)) ?_
 rintro _ W1 ⟨rfl, hb1, ch1, sz1⟩
 have zz1 := ch1.size
 refine rP 1 2 (.bool false) rfl rfl ?_
 refine rEnd 2 rfl (nxt (wp_seq (reg ?_)))
 refine rP 0 3 (pt w.heap.size 64) rfl rfl ?_
 refine rQ 1 4 _ rfl rfl (ld 3 3 w.heap.size 64 (.int .i64 n) (Mur.att_len hk hr hb1)) ?_
 by_cases hx1 : n ≥ (1 : Int)
 ·refine rQ 2 5 _ rfl rfl (qboolT (b := decide (n ≥ (1 : Int))) (decide_eq_true (by first | exact hx1 | omega))) ?_
  refine rP 3 6 (.bool true) rfl rfl ?_
  refine rP 4 7 (pt w.heap.size 64) rfl rfl ?_
  refine rQ 5 8 _ rfl rfl (ld 3 7 w.heap.size 64 (.int .i64 n) (Mur.att_len hk hr hb1)) ?_
  by_cases hx2 : n ≤ (5000 : Int)
  ·refine rQ 6 9 _ rfl rfl (qboolT (b := decide (n ≤ (5000 : Int))) (decide_eq_true (by first | exact hx2 | omega))) ?_
   refine rP 7 10 (.bool true) rfl rfl ?_
   refine rP 8 2 (.bool true) rfl rfl ?_
   refine rEnd 9 rfl (nxt (wp_ret ?_))
   have kk1 : Chg [] w W1 := Chg.step ((Chg.refl _).more (by simp)) ch1 trivial
   refine Wk.ret (.bool true) rfl (by kernel_rfl) ?_
   exact ⟨by rw [decide_eq_true (show Mur.may n from by unfold Mur.may; omega)], kk1⟩
  refine rQ 6 9 _ rfl rfl (qboolF (b := decide (n ≤ (5000 : Int))) (decide_eq_false (by first | exact hx2 | omega))) ?_
  refine rP 7 10 (.bool false) rfl rfl ?_
  refine rP 8 2 (.bool false) rfl rfl ?_
  refine rEnd 9 rfl (nxt (wp_ret ?_))
  have kk2 : Chg [] w W1 := Chg.step ((Chg.refl _).more (by simp)) ch1 trivial
  refine Wk.ret (.bool false) rfl (by kernel_rfl) ?_
  exact ⟨by rw [decide_eq_false (show ¬ Mur.may n from by unfold Mur.may; omega)], kk2⟩
 refine rQ 2 5 _ rfl rfl (qboolF (b := decide (n ≥ (1 : Int))) (decide_eq_false (by first | exact hx1 | omega))) ?_
 refine rP 3 6 (.bool false) rfl rfl ?_
 refine rPass 4 (some 7) rfl rfl (by kernel_rfl) ?_
 refine rPass 5 (some 8) rfl rfl (by kernel_rfl) ?_
 refine rPass 6 (some 9) rfl rfl (by kernel_rfl) ?_
 refine rP 7 10 (.bool false) rfl rfl ?_
 refine rP 8 2 (.bool false) rfl rfl ?_
 refine rEnd 9 rfl (nxt (wp_ret ?_))
 have kk3 : Chg [] w W1 := Chg.step ((Chg.refl _).more (by simp)) ch1 trivial
 refine Wk.ret (.bool false) rfl (by kernel_rfl) ?_
 exact ⟨by rw [decide_eq_false (show ¬ Mur.may n from by unfold Mur.may; omega)], kk3⟩
theorem eight_any (n : Int) (w : World) : Calls Tryd.prog 91 #[.int .i64 n] w fun e w' => ∃ E, Hid (E = Mur.e8 (Mur.u64n n)) ∧ E.length = 8 ∧ e = .returned (.agg (b8s E).toArray) ∧ Chg [] w w' := by
 refine calls_of_wp Tryd.func91 rfl ?_
 refine wp_seq (reg ?_)
 refine rX 0 2 rfl rfl (new_ex (pt w.heap.size 0) #[.int .u8 0, .int .u8 0, .int .u8 0, .int .u8 0, .int .u8 0, .int .u8 0, .int .u8 0, .int .u8 0] 144 (by kernel_rfl)) ?_
 rintro _ W1 ⟨rfl, hb1, ch1, sz1⟩
 have zz1 := ch1.size
 refine rEnd 1 rfl (nxt (wp_seq (wp_seq (reg ?_))))
 refine rP 0 4 (.int .i64 0) rfl rfl ?_
 refine rEnd 1 rfl (nxt (wp_block ?_))
 refine Wk.loopN 9 ?_
 refine Wk.rdS (wp_seq (reg ?_))
 refine rQ 0 5 _ rfl rfl (qboolT (b := decide ((0 : Int) < (8 : Int))) (decide_eq_true (by decide))) ?_
 refine rEnd 1 rfl (nxt (wp_seq (wp_cond_true (by kernel_rfl) (wp_skip (nxt (wp_seq (wp_block (wp_seq (reg ?_)))))))))
 refine rP 0 6 (.int .i64 0) rfl rfl ?_
 refine rP 1 3 (.int .i64 0) rfl rfl ?_
 refine rEnd 2 rfl (nxt (reg ?_))
 refine rP 0 7 (.int .i64 0) rfl rfl ?_
 refine rP 1 8 (.int .i64 n) rfl rfl ?_
 refine rQ 2 9 (.int .u64 ((Mur.u64n n : Nat) : Int)) rfl rfl (Mur.conv_u64n 3 24 (.tmp 8) rfl (by kernel_rfl) Tryd.underlying24 .i64 n (by kernel_rfl)) ?_
 refine rP 3 10 (.int .i64 0) rfl rfl ?_
 refine rQ 4 11 _ rfl rfl (qint64 (n := 8 * 0) (z := 0) (by omega) (by omega) (by omega)) ?_
 refine rQ 5 12 _ rfl rfl (qint64 (n := 56 - 0) (z := 56) (by omega) (by omega) (by omega)) ?_
 refine rQ 6 13 (.int .u64 (((Mur.u64n n) / 72057594037927936 : Nat) : Int)) rfl rfl (Mur.shr64 24 3 (.tmp 9) (.tmp 12) rfl (Mur.u64n n) 56 .i64 (by kernel_rfl) (by kernel_rfl) (by omega) 72057594037927936 rfl) ?_
 refine rQ 7 14 (.int .u8 (((Mur.u64n n) / 72057594037927936 % 256 : Nat) : Int)) rfl rfl (Mur.conv_u8 24 5 (.tmp 13) rfl (by kernel_rfl) Tryd.underlying5 .u64 ((Mur.u64n n) / 72057594037927936) (by kernel_rfl)) ?_
 refine rQ 8 15 (pt w.heap.size 0) rfl rfl (Wk.index_arr 144 5 (.tmp 2) (.tmp 7) rfl 8 Tryd.underlying144 1 (by kernel_rfl) w.heap.size 0 0 .i64 (by kernel_rfl) (by kernel_rfl) (by decide)) ?_
 refine rY 9 rfl rfl (store1 5 (.tmp 15) (.tmp 14) rfl (by kernel_rfl) w.heap.size 0 (by kernel_rfl) (.int .u8 (((Mur.u64n n) / 72057594037927936 % 256 : Nat) : Int)) (by kernel_rfl) rfl 144 #[.int .u8 0, .int .u8 0, .int .u8 0, .int .u8 0, .int .u8 0, .int .u8 0, .int .u8 0, .int .u8 0] hb1 (by simp)) ?_
 rintro W2 ⟨hb2, ch2⟩
 replace hb2 : W2.heap[w.heap.size]? = some (.cells #[.int .u8 (((Mur.u64n n) / 72057594037927936 % 256 : Nat) : Int), .int .u8 0, .int .u8 0, .int .u8 0, .int .u8 0, .int .u8 0, .int .u8 0, .int .u8 0] 144 (0, 0)) := hb2
 have zz2 := ch2.size
 refine rEnd 10 rfl (inN (nxt (reg ?_)))
 refine rQ 0 16 _ rfl rfl (qint64 (n := 0 + 1) (z := 1) (by omega) (by omega) (by omega)) ?_
 refine rP 1 4 (.int .i64 1) rfl rfl ?_
 refine rEnd 2 rfl (nxt (Wk.rdS (wp_seq (reg ?_))))
 refine rQ 0 5 _ rfl rfl (qboolT (b := decide ((1 : Int) < (8 : Int))) (decide_eq_true (by decide))) ?_
 refine rEnd 1 rfl (nxt (wp_seq (wp_cond_true (by kernel_rfl) (wp_skip (nxt (wp_seq (wp_block (wp_seq (reg ?_)))))))))
 refine rP 0 6 (.int .i64 1) rfl rfl ?_
 refine rP 1 3 (.int .i64 1) rfl rfl ?_
 refine rEnd 2 rfl (nxt (reg ?_))
 refine rP 0 7 (.int .i64 1) rfl rfl ?_
 refine rP 1 8 (.int .i64 n) rfl rfl ?_
 refine rQ 2 9 (.int .u64 ((Mur.u64n n : Nat) : Int)) rfl rfl (Mur.conv_u64n 3 24 (.tmp 8) rfl (by kernel_rfl) Tryd.underlying24 .i64 n (by kernel_rfl)) ?_
 refine rP 3 10 (.int .i64 1) rfl rfl ?_
 refine rQ 4 11 _ rfl rfl (qint64 (n := 8 * 1) (z := 8) (by omega) (by omega) (by omega)) ?_
 refine rQ 5 12 _ rfl rfl (qint64 (n := 56 - 8) (z := 48) (by omega) (by omega) (by omega)) ?_
 refine rQ 6 13 (.int .u64 (((Mur.u64n n) / 281474976710656 : Nat) : Int)) rfl rfl (Mur.shr64 24 3 (.tmp 9) (.tmp 12) rfl (Mur.u64n n) 48 .i64 (by kernel_rfl) (by kernel_rfl) (by omega) 281474976710656 rfl) ?_
 refine rQ 7 14 (.int .u8 (((Mur.u64n n) / 281474976710656 % 256 : Nat) : Int)) rfl rfl (Mur.conv_u8 24 5 (.tmp 13) rfl (by kernel_rfl) Tryd.underlying5 .u64 ((Mur.u64n n) / 281474976710656) (by kernel_rfl)) ?_
 refine rQ 8 15 (pt w.heap.size 1) rfl rfl (Wk.index_arr 144 5 (.tmp 2) (.tmp 7) rfl 8 Tryd.underlying144 1 (by kernel_rfl) w.heap.size 0 1 .i64 (by kernel_rfl) (by kernel_rfl) (by decide)) ?_
 refine rY 9 rfl rfl (store1 5 (.tmp 15) (.tmp 14) rfl (by kernel_rfl) w.heap.size 1 (by kernel_rfl) (.int .u8 (((Mur.u64n n) / 281474976710656 % 256 : Nat) : Int)) (by kernel_rfl) rfl 144 #[.int .u8 (((Mur.u64n n) / 72057594037927936 % 256 : Nat) : Int), .int .u8 0, .int .u8 0, .int .u8 0, .int .u8 0, .int .u8 0, .int .u8 0, .int .u8 0] hb2 (by simp)) ?_
 rintro W3 ⟨hb3, ch3⟩
 replace hb3 : W3.heap[w.heap.size]? = some (.cells #[.int .u8 (((Mur.u64n n) / 72057594037927936 % 256 : Nat) : Int), .int .u8 (((Mur.u64n n) / 281474976710656 % 256 : Nat) : Int), .int .u8 0, .int .u8 0, .int .u8 0, .int .u8 0, .int .u8 0, .int .u8 0] 144 (0, 0)) := hb3
 have zz3 := ch3.size
 refine rEnd 10 rfl (inN (nxt (reg ?_)))
 refine rQ 0 16 _ rfl rfl (qint64 (n := 1 + 1) (z := 2) (by omega) (by omega) (by omega)) ?_
 refine rP 1 4 (.int .i64 2) rfl rfl ?_
 refine rEnd 2 rfl (nxt (Wk.rdS (wp_seq (reg ?_))))
 refine rQ 0 5 _ rfl rfl (qboolT (b := decide ((2 : Int) < (8 : Int))) (decide_eq_true (by decide))) ?_
 refine rEnd 1 rfl (nxt (wp_seq (wp_cond_true (by kernel_rfl) (wp_skip (nxt (wp_seq (wp_block (wp_seq (reg ?_)))))))))
 refine rP 0 6 (.int .i64 2) rfl rfl ?_
 refine rP 1 3 (.int .i64 2) rfl rfl ?_
 refine rEnd 2 rfl (nxt (reg ?_))
 refine rP 0 7 (.int .i64 2) rfl rfl ?_
 refine rP 1 8 (.int .i64 n) rfl rfl ?_
 refine rQ 2 9 (.int .u64 ((Mur.u64n n : Nat) : Int)) rfl rfl (Mur.conv_u64n 3 24 (.tmp 8) rfl (by kernel_rfl) Tryd.underlying24 .i64 n (by kernel_rfl)) ?_
 refine rP 3 10 (.int .i64 2) rfl rfl ?_
 refine rQ 4 11 _ rfl rfl (qint64 (n := 8 * 2) (z := 16) (by omega) (by omega) (by omega)) ?_
 refine rQ 5 12 _ rfl rfl (qint64 (n := 56 - 16) (z := 40) (by omega) (by omega) (by omega)) ?_
 refine rQ 6 13 (.int .u64 (((Mur.u64n n) / 1099511627776 : Nat) : Int)) rfl rfl (Mur.shr64 24 3 (.tmp 9) (.tmp 12) rfl (Mur.u64n n) 40 .i64 (by kernel_rfl) (by kernel_rfl) (by omega) 1099511627776 rfl) ?_
 refine rQ 7 14 (.int .u8 (((Mur.u64n n) / 1099511627776 % 256 : Nat) : Int)) rfl rfl (Mur.conv_u8 24 5 (.tmp 13) rfl (by kernel_rfl) Tryd.underlying5 .u64 ((Mur.u64n n) / 1099511627776) (by kernel_rfl)) ?_
 refine rQ 8 15 (pt w.heap.size 2) rfl rfl (Wk.index_arr 144 5 (.tmp 2) (.tmp 7) rfl 8 Tryd.underlying144 1 (by kernel_rfl) w.heap.size 0 2 .i64 (by kernel_rfl) (by kernel_rfl) (by decide)) ?_
 refine rY 9 rfl rfl (store1 5 (.tmp 15) (.tmp 14) rfl (by kernel_rfl) w.heap.size 2 (by kernel_rfl) (.int .u8 (((Mur.u64n n) / 1099511627776 % 256 : Nat) : Int)) (by kernel_rfl) rfl 144 #[.int .u8 (((Mur.u64n n) / 72057594037927936 % 256 : Nat) : Int), .int .u8 (((Mur.u64n n) / 281474976710656 % 256 : Nat) : Int), .int .u8 0, .int .u8 0, .int .u8 0, .int .u8 0, .int .u8 0, .int .u8 0] hb3 (by simp)) ?_
 rintro W4 ⟨hb4, ch4⟩
 replace hb4 : W4.heap[w.heap.size]? = some (.cells #[.int .u8 (((Mur.u64n n) / 72057594037927936 % 256 : Nat) : Int), .int .u8 (((Mur.u64n n) / 281474976710656 % 256 : Nat) : Int), .int .u8 (((Mur.u64n n) / 1099511627776 % 256 : Nat) : Int), .int .u8 0, .int .u8 0, .int .u8 0, .int .u8 0, .int .u8 0] 144 (0, 0)) := hb4
 have zz4 := ch4.size
 refine rEnd 10 rfl (inN (nxt (reg ?_)))
 refine rQ 0 16 _ rfl rfl (qint64 (n := 2 + 1) (z := 3) (by omega) (by omega) (by omega)) ?_
 refine rP 1 4 (.int .i64 3) rfl rfl ?_
 refine rEnd 2 rfl (nxt (Wk.rdS (wp_seq (reg ?_))))
 refine rQ 0 5 _ rfl rfl (qboolT (b := decide ((3 : Int) < (8 : Int))) (decide_eq_true (by decide))) ?_
 refine rEnd 1 rfl (nxt (wp_seq (wp_cond_true (by kernel_rfl) (wp_skip (nxt (wp_seq (wp_block (wp_seq (reg ?_)))))))))
 refine rP 0 6 (.int .i64 3) rfl rfl ?_
 refine rP 1 3 (.int .i64 3) rfl rfl ?_
 refine rEnd 2 rfl (nxt (reg ?_))
 refine rP 0 7 (.int .i64 3) rfl rfl ?_
 refine rP 1 8 (.int .i64 n) rfl rfl ?_
 refine rQ 2 9 (.int .u64 ((Mur.u64n n : Nat) : Int)) rfl rfl (Mur.conv_u64n 3 24 (.tmp 8) rfl (by kernel_rfl) Tryd.underlying24 .i64 n (by kernel_rfl)) ?_
 refine rP 3 10 (.int .i64 3) rfl rfl ?_
 refine rQ 4 11 _ rfl rfl (qint64 (n := 8 * 3) (z := 24) (by omega) (by omega) (by omega)) ?_
 refine rQ 5 12 _ rfl rfl (qint64 (n := 56 - 24) (z := 32) (by omega) (by omega) (by omega)) ?_
 refine rQ 6 13 (.int .u64 (((Mur.u64n n) / 4294967296 : Nat) : Int)) rfl rfl (Mur.shr64 24 3 (.tmp 9) (.tmp 12) rfl (Mur.u64n n) 32 .i64 (by kernel_rfl) (by kernel_rfl) (by omega) 4294967296 rfl) ?_
 refine rQ 7 14 (.int .u8 (((Mur.u64n n) / 4294967296 % 256 : Nat) : Int)) rfl rfl (Mur.conv_u8 24 5 (.tmp 13) rfl (by kernel_rfl) Tryd.underlying5 .u64 ((Mur.u64n n) / 4294967296) (by kernel_rfl)) ?_
 refine rQ 8 15 (pt w.heap.size 3) rfl rfl (Wk.index_arr 144 5 (.tmp 2) (.tmp 7) rfl 8 Tryd.underlying144 1 (by kernel_rfl) w.heap.size 0 3 .i64 (by kernel_rfl) (by kernel_rfl) (by decide)) ?_
 refine rY 9 rfl rfl (store1 5 (.tmp 15) (.tmp 14) rfl (by kernel_rfl) w.heap.size 3 (by kernel_rfl) (.int .u8 (((Mur.u64n n) / 4294967296 % 256 : Nat) : Int)) (by kernel_rfl) rfl 144 #[.int .u8 (((Mur.u64n n) / 72057594037927936 % 256 : Nat) : Int), .int .u8 (((Mur.u64n n) / 281474976710656 % 256 : Nat) : Int), .int .u8 (((Mur.u64n n) / 1099511627776 % 256 : Nat) : Int), .int .u8 0, .int .u8 0, .int .u8 0, .int .u8 0, .int .u8 0] hb4 (by simp)) ?_
 rintro W5 ⟨hb5, ch5⟩
 replace hb5 : W5.heap[w.heap.size]? = some (.cells #[.int .u8 (((Mur.u64n n) / 72057594037927936 % 256 : Nat) : Int), .int .u8 (((Mur.u64n n) / 281474976710656 % 256 : Nat) : Int), .int .u8 (((Mur.u64n n) / 1099511627776 % 256 : Nat) : Int), .int .u8 (((Mur.u64n n) / 4294967296 % 256 : Nat) : Int), .int .u8 0, .int .u8 0, .int .u8 0, .int .u8 0] 144 (0, 0)) := hb5
 have zz5 := ch5.size
 refine rEnd 10 rfl (inN (nxt (reg ?_)))
 refine rQ 0 16 _ rfl rfl (qint64 (n := 3 + 1) (z := 4) (by omega) (by omega) (by omega)) ?_
 refine rP 1 4 (.int .i64 4) rfl rfl ?_
 refine rEnd 2 rfl (nxt (Wk.rdS (wp_seq (reg ?_))))
 refine rQ 0 5 _ rfl rfl (qboolT (b := decide ((4 : Int) < (8 : Int))) (decide_eq_true (by decide))) ?_
 refine rEnd 1 rfl (nxt (wp_seq (wp_cond_true (by kernel_rfl) (wp_skip (nxt (wp_seq (wp_block (wp_seq (reg ?_)))))))))
 refine rP 0 6 (.int .i64 4) rfl rfl ?_
 refine rP 1 3 (.int .i64 4) rfl rfl ?_
 refine rEnd 2 rfl (nxt (reg ?_))
 refine rP 0 7 (.int .i64 4) rfl rfl ?_
 refine rP 1 8 (.int .i64 n) rfl rfl ?_
 refine rQ 2 9 (.int .u64 ((Mur.u64n n : Nat) : Int)) rfl rfl (Mur.conv_u64n 3 24 (.tmp 8) rfl (by kernel_rfl) Tryd.underlying24 .i64 n (by kernel_rfl)) ?_
 refine rP 3 10 (.int .i64 4) rfl rfl ?_
 refine rQ 4 11 _ rfl rfl (qint64 (n := 8 * 4) (z := 32) (by omega) (by omega) (by omega)) ?_
 refine rQ 5 12 _ rfl rfl (qint64 (n := 56 - 32) (z := 24) (by omega) (by omega) (by omega)) ?_
 refine rQ 6 13 (.int .u64 (((Mur.u64n n) / 16777216 : Nat) : Int)) rfl rfl (Mur.shr64 24 3 (.tmp 9) (.tmp 12) rfl (Mur.u64n n) 24 .i64 (by kernel_rfl) (by kernel_rfl) (by omega) 16777216 rfl) ?_
 refine rQ 7 14 (.int .u8 (((Mur.u64n n) / 16777216 % 256 : Nat) : Int)) rfl rfl (Mur.conv_u8 24 5 (.tmp 13) rfl (by kernel_rfl) Tryd.underlying5 .u64 ((Mur.u64n n) / 16777216) (by kernel_rfl)) ?_
 refine rQ 8 15 (pt w.heap.size 4) rfl rfl (Wk.index_arr 144 5 (.tmp 2) (.tmp 7) rfl 8 Tryd.underlying144 1 (by kernel_rfl) w.heap.size 0 4 .i64 (by kernel_rfl) (by kernel_rfl) (by decide)) ?_
 refine rY 9 rfl rfl (store1 5 (.tmp 15) (.tmp 14) rfl (by kernel_rfl) w.heap.size 4 (by kernel_rfl) (.int .u8 (((Mur.u64n n) / 16777216 % 256 : Nat) : Int)) (by kernel_rfl) rfl 144 #[.int .u8 (((Mur.u64n n) / 72057594037927936 % 256 : Nat) : Int), .int .u8 (((Mur.u64n n) / 281474976710656 % 256 : Nat) : Int), .int .u8 (((Mur.u64n n) / 1099511627776 % 256 : Nat) : Int), .int .u8 (((Mur.u64n n) / 4294967296 % 256 : Nat) : Int), .int .u8 0, .int .u8 0, .int .u8 0, .int .u8 0] hb5 (by simp)) ?_
 rintro W6 ⟨hb6, ch6⟩
 replace hb6 : W6.heap[w.heap.size]? = some (.cells #[.int .u8 (((Mur.u64n n) / 72057594037927936 % 256 : Nat) : Int), .int .u8 (((Mur.u64n n) / 281474976710656 % 256 : Nat) : Int), .int .u8 (((Mur.u64n n) / 1099511627776 % 256 : Nat) : Int), .int .u8 (((Mur.u64n n) / 4294967296 % 256 : Nat) : Int), .int .u8 (((Mur.u64n n) / 16777216 % 256 : Nat) : Int), .int .u8 0, .int .u8 0, .int .u8 0] 144 (0, 0)) := hb6
 have zz6 := ch6.size
 refine rEnd 10 rfl (inN (nxt (reg ?_)))
 refine rQ 0 16 _ rfl rfl (qint64 (n := 4 + 1) (z := 5) (by omega) (by omega) (by omega)) ?_
 refine rP 1 4 (.int .i64 5) rfl rfl ?_
 refine rEnd 2 rfl (nxt (Wk.rdS (wp_seq (reg ?_))))
 refine rQ 0 5 _ rfl rfl (qboolT (b := decide ((5 : Int) < (8 : Int))) (decide_eq_true (by decide))) ?_
 refine rEnd 1 rfl (nxt (wp_seq (wp_cond_true (by kernel_rfl) (wp_skip (nxt (wp_seq (wp_block (wp_seq (reg ?_)))))))))
 refine rP 0 6 (.int .i64 5) rfl rfl ?_
 refine rP 1 3 (.int .i64 5) rfl rfl ?_
 refine rEnd 2 rfl (nxt (reg ?_))
 refine rP 0 7 (.int .i64 5) rfl rfl ?_
 refine rP 1 8 (.int .i64 n) rfl rfl ?_
 refine rQ 2 9 (.int .u64 ((Mur.u64n n : Nat) : Int)) rfl rfl (Mur.conv_u64n 3 24 (.tmp 8) rfl (by kernel_rfl) Tryd.underlying24 .i64 n (by kernel_rfl)) ?_
 refine rP 3 10 (.int .i64 5) rfl rfl ?_
 refine rQ 4 11 _ rfl rfl (qint64 (n := 8 * 5) (z := 40) (by omega) (by omega) (by omega)) ?_
 refine rQ 5 12 _ rfl rfl (qint64 (n := 56 - 40) (z := 16) (by omega) (by omega) (by omega)) ?_
 refine rQ 6 13 (.int .u64 (((Mur.u64n n) / 65536 : Nat) : Int)) rfl rfl (Mur.shr64 24 3 (.tmp 9) (.tmp 12) rfl (Mur.u64n n) 16 .i64 (by kernel_rfl) (by kernel_rfl) (by omega) 65536 rfl) ?_
 refine rQ 7 14 (.int .u8 (((Mur.u64n n) / 65536 % 256 : Nat) : Int)) rfl rfl (Mur.conv_u8 24 5 (.tmp 13) rfl (by kernel_rfl) Tryd.underlying5 .u64 ((Mur.u64n n) / 65536) (by kernel_rfl)) ?_
 refine rQ 8 15 (pt w.heap.size 5) rfl rfl (Wk.index_arr 144 5 (.tmp 2) (.tmp 7) rfl 8 Tryd.underlying144 1 (by kernel_rfl) w.heap.size 0 5 .i64 (by kernel_rfl) (by kernel_rfl) (by decide)) ?_
 refine rY 9 rfl rfl (store1 5 (.tmp 15) (.tmp 14) rfl (by kernel_rfl) w.heap.size 5 (by kernel_rfl) (.int .u8 (((Mur.u64n n) / 65536 % 256 : Nat) : Int)) (by kernel_rfl) rfl 144 #[.int .u8 (((Mur.u64n n) / 72057594037927936 % 256 : Nat) : Int), .int .u8 (((Mur.u64n n) / 281474976710656 % 256 : Nat) : Int), .int .u8 (((Mur.u64n n) / 1099511627776 % 256 : Nat) : Int), .int .u8 (((Mur.u64n n) / 4294967296 % 256 : Nat) : Int), .int .u8 (((Mur.u64n n) / 16777216 % 256 : Nat) : Int), .int .u8 0, .int .u8 0, .int .u8 0] hb6 (by simp)) ?_
 rintro W7 ⟨hb7, ch7⟩
 replace hb7 : W7.heap[w.heap.size]? = some (.cells #[.int .u8 (((Mur.u64n n) / 72057594037927936 % 256 : Nat) : Int), .int .u8 (((Mur.u64n n) / 281474976710656 % 256 : Nat) : Int), .int .u8 (((Mur.u64n n) / 1099511627776 % 256 : Nat) : Int), .int .u8 (((Mur.u64n n) / 4294967296 % 256 : Nat) : Int), .int .u8 (((Mur.u64n n) / 16777216 % 256 : Nat) : Int), .int .u8 (((Mur.u64n n) / 65536 % 256 : Nat) : Int), .int .u8 0, .int .u8 0] 144 (0, 0)) := hb7
 have zz7 := ch7.size
 refine rEnd 10 rfl (inN (nxt (reg ?_)))
 refine rQ 0 16 _ rfl rfl (qint64 (n := 5 + 1) (z := 6) (by omega) (by omega) (by omega)) ?_
 refine rP 1 4 (.int .i64 6) rfl rfl ?_
 refine rEnd 2 rfl (nxt (Wk.rdS (wp_seq (reg ?_))))
 refine rQ 0 5 _ rfl rfl (qboolT (b := decide ((6 : Int) < (8 : Int))) (decide_eq_true (by decide))) ?_
 refine rEnd 1 rfl (nxt (wp_seq (wp_cond_true (by kernel_rfl) (wp_skip (nxt (wp_seq (wp_block (wp_seq (reg ?_)))))))))
 refine rP 0 6 (.int .i64 6) rfl rfl ?_
 refine rP 1 3 (.int .i64 6) rfl rfl ?_
 refine rEnd 2 rfl (nxt (reg ?_))
 refine rP 0 7 (.int .i64 6) rfl rfl ?_
 refine rP 1 8 (.int .i64 n) rfl rfl ?_
 refine rQ 2 9 (.int .u64 ((Mur.u64n n : Nat) : Int)) rfl rfl (Mur.conv_u64n 3 24 (.tmp 8) rfl (by kernel_rfl) Tryd.underlying24 .i64 n (by kernel_rfl)) ?_
 refine rP 3 10 (.int .i64 6) rfl rfl ?_
 refine rQ 4 11 _ rfl rfl (qint64 (n := 8 * 6) (z := 48) (by omega) (by omega) (by omega)) ?_
 refine rQ 5 12 _ rfl rfl (qint64 (n := 56 - 48) (z := 8) (by omega) (by omega) (by omega)) ?_
 refine rQ 6 13 (.int .u64 (((Mur.u64n n) / 256 : Nat) : Int)) rfl rfl (Mur.shr64 24 3 (.tmp 9) (.tmp 12) rfl (Mur.u64n n) 8 .i64 (by kernel_rfl) (by kernel_rfl) (by omega) 256 rfl) ?_
 refine rQ 7 14 (.int .u8 (((Mur.u64n n) / 256 % 256 : Nat) : Int)) rfl rfl (Mur.conv_u8 24 5 (.tmp 13) rfl (by kernel_rfl) Tryd.underlying5 .u64 ((Mur.u64n n) / 256) (by kernel_rfl)) ?_
 refine rQ 8 15 (pt w.heap.size 6) rfl rfl (Wk.index_arr 144 5 (.tmp 2) (.tmp 7) rfl 8 Tryd.underlying144 1 (by kernel_rfl) w.heap.size 0 6 .i64 (by kernel_rfl) (by kernel_rfl) (by decide)) ?_
 refine rY 9 rfl rfl (store1 5 (.tmp 15) (.tmp 14) rfl (by kernel_rfl) w.heap.size 6 (by kernel_rfl) (.int .u8 (((Mur.u64n n) / 256 % 256 : Nat) : Int)) (by kernel_rfl) rfl 144 #[.int .u8 (((Mur.u64n n) / 72057594037927936 % 256 : Nat) : Int), .int .u8 (((Mur.u64n n) / 281474976710656 % 256 : Nat) : Int), .int .u8 (((Mur.u64n n) / 1099511627776 % 256 : Nat) : Int), .int .u8 (((Mur.u64n n) / 4294967296 % 256 : Nat) : Int), .int .u8 (((Mur.u64n n) / 16777216 % 256 : Nat) : Int), .int .u8 (((Mur.u64n n) / 65536 % 256 : Nat) : Int), .int .u8 0, .int .u8 0] hb7 (by simp)) ?_
 rintro W8 ⟨hb8, ch8⟩
 replace hb8 : W8.heap[w.heap.size]? = some (.cells #[.int .u8 (((Mur.u64n n) / 72057594037927936 % 256 : Nat) : Int), .int .u8 (((Mur.u64n n) / 281474976710656 % 256 : Nat) : Int), .int .u8 (((Mur.u64n n) / 1099511627776 % 256 : Nat) : Int), .int .u8 (((Mur.u64n n) / 4294967296 % 256 : Nat) : Int), .int .u8 (((Mur.u64n n) / 16777216 % 256 : Nat) : Int), .int .u8 (((Mur.u64n n) / 65536 % 256 : Nat) : Int), .int .u8 (((Mur.u64n n) / 256 % 256 : Nat) : Int), .int .u8 0] 144 (0, 0)) := hb8
 have zz8 := ch8.size
 refine rEnd 10 rfl (inN (nxt (reg ?_)))
 refine rQ 0 16 _ rfl rfl (qint64 (n := 6 + 1) (z := 7) (by omega) (by omega) (by omega)) ?_
 refine rP 1 4 (.int .i64 7) rfl rfl ?_
 refine rEnd 2 rfl (nxt (Wk.rdS (wp_seq (reg ?_))))
 refine rQ 0 5 _ rfl rfl (qboolT (b := decide ((7 : Int) < (8 : Int))) (decide_eq_true (by decide))) ?_
 refine rEnd 1 rfl (nxt (wp_seq (wp_cond_true (by kernel_rfl) (wp_skip (nxt (wp_seq (wp_block (wp_seq (reg ?_)))))))))
 refine rP 0 6 (.int .i64 7) rfl rfl ?_
 refine rP 1 3 (.int .i64 7) rfl rfl ?_
 refine rEnd 2 rfl (nxt (reg ?_))
 refine rP 0 7 (.int .i64 7) rfl rfl ?_
 refine rP 1 8 (.int .i64 n) rfl rfl ?_
 refine rQ 2 9 (.int .u64 ((Mur.u64n n : Nat) : Int)) rfl rfl (Mur.conv_u64n 3 24 (.tmp 8) rfl (by kernel_rfl) Tryd.underlying24 .i64 n (by kernel_rfl)) ?_
 refine rP 3 10 (.int .i64 7) rfl rfl ?_
 refine rQ 4 11 _ rfl rfl (qint64 (n := 8 * 7) (z := 56) (by omega) (by omega) (by omega)) ?_
 refine rQ 5 12 _ rfl rfl (qint64 (n := 56 - 56) (z := 0) (by omega) (by omega) (by omega)) ?_
 refine rQ 6 13 (.int .u64 (((Mur.u64n n) / 1 : Nat) : Int)) rfl rfl (Mur.shr64 24 3 (.tmp 9) (.tmp 12) rfl (Mur.u64n n) 0 .i64 (by kernel_rfl) (by kernel_rfl) (by omega) 1 rfl) ?_
 refine rQ 7 14 (.int .u8 (((Mur.u64n n) / 1 % 256 : Nat) : Int)) rfl rfl (Mur.conv_u8 24 5 (.tmp 13) rfl (by kernel_rfl) Tryd.underlying5 .u64 ((Mur.u64n n) / 1) (by kernel_rfl)) ?_
 refine rQ 8 15 (pt w.heap.size 7) rfl rfl (Wk.index_arr 144 5 (.tmp 2) (.tmp 7) rfl 8 Tryd.underlying144 1 (by kernel_rfl) w.heap.size 0 7 .i64 (by kernel_rfl) (by kernel_rfl) (by decide)) ?_
 refine rY 9 rfl rfl (store1 5 (.tmp 15) (.tmp 14) rfl (by kernel_rfl) w.heap.size 7 (by kernel_rfl) (.int .u8 (((Mur.u64n n) / 1 % 256 : Nat) : Int)) (by kernel_rfl) rfl 144 #[.int .u8 (((Mur.u64n n) / 72057594037927936 % 256 : Nat) : Int), .int .u8 (((Mur.u64n n) / 281474976710656 % 256 : Nat) : Int), .int .u8 (((Mur.u64n n) / 1099511627776 % 256 : Nat) : Int), .int .u8 (((Mur.u64n n) / 4294967296 % 256 : Nat) : Int), .int .u8 (((Mur.u64n n) / 16777216 % 256 : Nat) : Int), .int .u8 (((Mur.u64n n) / 65536 % 256 : Nat) : Int), .int .u8 (((Mur.u64n n) / 256 % 256 : Nat) : Int), .int .u8 0] hb8 (by simp)) ?_
 rintro W9 ⟨hb9, ch9⟩
 replace hb9 : W9.heap[w.heap.size]? = some (.cells #[.int .u8 (((Mur.u64n n) / 72057594037927936 % 256 : Nat) : Int), .int .u8 (((Mur.u64n n) / 281474976710656 % 256 : Nat) : Int), .int .u8 (((Mur.u64n n) / 1099511627776 % 256 : Nat) : Int), .int .u8 (((Mur.u64n n) / 4294967296 % 256 : Nat) : Int), .int .u8 (((Mur.u64n n) / 16777216 % 256 : Nat) : Int), .int .u8 (((Mur.u64n n) / 65536 % 256 : Nat) : Int), .int .u8 (((Mur.u64n n) / 256 % 256 : Nat) : Int), .int .u8 (((Mur.u64n n) / 1 % 256 : Nat) : Int)] 144 (0, 0)) := hb9
 have zz9 := ch9.size
 refine rEnd 10 rfl (inN (nxt (reg ?_)))
 refine rQ 0 16 _ rfl rfl (qint64 (n := 7 + 1) (z := 8) (by omega) (by omega) (by omega)) ?_
 refine rP 1 4 (.int .i64 8) rfl rfl ?_
 refine rEnd 2 rfl (nxt (Wk.rdS (wp_seq (reg ?_))))
 refine rQ 0 5 _ rfl rfl (qboolF (b := decide ((8 : Int) < (8 : Int))) (decide_eq_false (by decide))) ?_
 refine rEnd 1 rfl (nxt (wp_seq (wp_cond_false (by kernel_rfl) (wp_exit (thX (thX (inX (nxt (wp_seq (reg ?_))))))))))
 refine rQ 0 17 (.agg #[.int .u8 (((Mur.u64n n) / 72057594037927936 % 256 : Nat) : Int), .int .u8 (((Mur.u64n n) / 281474976710656 % 256 : Nat) : Int), .int .u8 (((Mur.u64n n) / 1099511627776 % 256 : Nat) : Int), .int .u8 (((Mur.u64n n) / 4294967296 % 256 : Nat) : Int), .int .u8 (((Mur.u64n n) / 16777216 % 256 : Nat) : Int), .int .u8 (((Mur.u64n n) / 65536 % 256 : Nat) : Int), .int .u8 (((Mur.u64n n) / 256 % 256 : Nat) : Int), .int .u8 (((Mur.u64n n) / 1 % 256 : Nat) : Int)]) rfl rfl (loadR 144 (.tmp 2) rfl _ Tryd.underlying144 rfl w.heap.size 0 (by kernel_rfl) ([.int .u8 (((Mur.u64n n) / 72057594037927936 % 256 : Nat) : Int), .int .u8 (((Mur.u64n n) / 281474976710656 % 256 : Nat) : Int), .int .u8 (((Mur.u64n n) / 1099511627776 % 256 : Nat) : Int), .int .u8 (((Mur.u64n n) / 4294967296 % 256 : Nat) : Int), .int .u8 (((Mur.u64n n) / 16777216 % 256 : Nat) : Int), .int .u8 (((Mur.u64n n) / 65536 % 256 : Nat) : Int), .int .u8 (((Mur.u64n n) / 256 % 256 : Nat) : Int), .int .u8 (((Mur.u64n n) / 1 % 256 : Nat) : Int)]) (by kernel_rfl) (range_row hb9)) ?_
 refine rY 1 rfl rfl (Wk.storeR 144 (.tmp 2) (.tmp 17) rfl w.heap.size 0 (by kernel_rfl) ([.int .u8 (((Mur.u64n n) / 72057594037927936 % 256 : Nat) : Int), .int .u8 (((Mur.u64n n) / 281474976710656 % 256 : Nat) : Int), .int .u8 (((Mur.u64n n) / 1099511627776 % 256 : Nat) : Int), .int .u8 (((Mur.u64n n) / 4294967296 % 256 : Nat) : Int), .int .u8 (((Mur.u64n n) / 16777216 % 256 : Nat) : Int), .int .u8 (((Mur.u64n n) / 65536 % 256 : Nat) : Int), .int .u8 (((Mur.u64n n) / 256 % 256 : Nat) : Int), .int .u8 (((Mur.u64n n) / 1 % 256 : Nat) : Int)]) (by kernel_rfl) (by kernel_rfl) (by intro v hv; simp at hv; rcases hv with h | h | h | h | h | h | h | h <;> (subst h; rfl)) 144 ([.int .u8 (((Mur.u64n n) / 72057594037927936 % 256 : Nat) : Int), .int .u8 (((Mur.u64n n) / 281474976710656 % 256 : Nat) : Int), .int .u8 (((Mur.u64n n) / 1099511627776 % 256 : Nat) : Int), .int .u8 (((Mur.u64n n) / 4294967296 % 256 : Nat) : Int), .int .u8 (((Mur.u64n n) / 16777216 % 256 : Nat) : Int), .int .u8 (((Mur.u64n n) / 65536 % 256 : Nat) : Int), .int .u8 (((Mur.u64n n) / 256 % 256 : Nat) : Int), .int .u8 (((Mur.u64n n) / 1 % 256 : Nat) : Int)]) hb9 (by simp)) ?_
 rintro W10 ⟨hb10, ch10⟩
 replace hb10 : W10.heap[w.heap.size]? = some (.cells #[.int .u8 (((Mur.u64n n) / 72057594037927936 % 256 : Nat) : Int), .int .u8 (((Mur.u64n n) / 281474976710656 % 256 : Nat) : Int), .int .u8 (((Mur.u64n n) / 1099511627776 % 256 : Nat) : Int), .int .u8 (((Mur.u64n n) / 4294967296 % 256 : Nat) : Int), .int .u8 (((Mur.u64n n) / 16777216 % 256 : Nat) : Int), .int .u8 (((Mur.u64n n) / 65536 % 256 : Nat) : Int), .int .u8 (((Mur.u64n n) / 256 % 256 : Nat) : Int), .int .u8 (((Mur.u64n n) / 1 % 256 : Nat) : Int)] 144 (0, 0)) := hb10
 have zz10 := ch10.size
 refine rEnd 2 rfl (nxt (wp_ret ?_))
 have kk1 : Chg [] w W1 := Chg.step ((Chg.refl _).more (by simp)) ch1 trivial
 have kk2 := Chg.step kk1 ch2 ⟨.inr (by omega), trivial⟩
 have kk3 := Chg.step kk2 ch3 ⟨.inr (by omega), trivial⟩
 have kk4 := Chg.step kk3 ch4 ⟨.inr (by omega), trivial⟩
 have kk5 := Chg.step kk4 ch5 ⟨.inr (by omega), trivial⟩
 have kk6 := Chg.step kk5 ch6 ⟨.inr (by omega), trivial⟩
 have kk7 := Chg.step kk6 ch7 ⟨.inr (by omega), trivial⟩
 have kk8 := Chg.step kk7 ch8 ⟨.inr (by omega), trivial⟩
 have kk9 := Chg.step kk8 ch9 ⟨.inr (by omega), trivial⟩
 have kk10 := Chg.step kk9 ch10 ⟨.inr (by omega), trivial⟩
 refine Wk.ret (.agg #[.int .u8 (((Mur.u64n n) / 72057594037927936 % 256 : Nat) : Int), .int .u8 (((Mur.u64n n) / 281474976710656 % 256 : Nat) : Int), .int .u8 (((Mur.u64n n) / 1099511627776 % 256 : Nat) : Int), .int .u8 (((Mur.u64n n) / 4294967296 % 256 : Nat) : Int), .int .u8 (((Mur.u64n n) / 16777216 % 256 : Nat) : Int), .int .u8 (((Mur.u64n n) / 65536 % 256 : Nat) : Int), .int .u8 (((Mur.u64n n) / 256 % 256 : Nat) : Int), .int .u8 (((Mur.u64n n) / 1 % 256 : Nat) : Int)]) rfl (results_cell_row rfl _ _ w.heap.size 144 #[.int .u8 (((Mur.u64n n) / 72057594037927936 % 256 : Nat) : Int), .int .u8 (((Mur.u64n n) / 281474976710656 % 256 : Nat) : Int), .int .u8 (((Mur.u64n n) / 1099511627776 % 256 : Nat) : Int), .int .u8 (((Mur.u64n n) / 4294967296 % 256 : Nat) : Int), .int .u8 (((Mur.u64n n) / 16777216 % 256 : Nat) : Int), .int .u8 (((Mur.u64n n) / 65536 % 256 : Nat) : Int), .int .u8 (((Mur.u64n n) / 256 % 256 : Nat) : Int), .int .u8 (((Mur.u64n n) / 1 % 256 : Nat) : Int)] (0, 0) _ (by kernel_rfl) hb10 Tryd.underlying144 rfl (by kernel_rfl)) ?_
 exact ⟨_, Go.Lib.hid rfl, Mur.e8_length _, by rw [Mur.e8_cells], kk10⟩
end Go.Proofs.YtgbadghjnpbiaaaDoor
namespace Go.Proofs.YtgbadghjnpbiaaaDoor
open Go.RowKit Wk
open Mur (b8s Byt Own8 Seg Segs flat cutA attC)
set_option maxRecDepth 100000
set_option maxHeartbeats 4000000
end Go.Proofs.YtgbadghjnpbiaaaDoor
namespace Go.Proofs.YtgbadghjnpbiaaaDoor
open Go.RowKit Wk
open Mur (b8s Byt Own8 Seg Segs flat cutA attC)
set_option maxRecDepth 100000
set_option maxHeartbeats 4000000
theorem Join4_any (gp : Nat) (T : TypeId) (fr : Nat × Nat) (A1 A2 A3 A4 : Option Addr) (c1 c2 c3 c4 : Nat) (k r E t : List UInt8) (w : World) (hp : w.heap[gp]? = some (.cells #[.slice A1 32 c1, .slice A2 32 c2, .slice A3 8 c3, .slice A4 32 c4] T fr)) (hy1 : Byt w A1 32 k) (hy2 : Byt w A2 32 r) (hy3 : Byt w A3 8 E) (hy4 : Byt w A4 32 t) : Calls Tryd.prog 92 #[.slice (some ⟨gp, 0, none⟩) 4 4, .slice none 0 0] w fun e w' => ∃ q, e = .returned (.slice (some ⟨q, 0, none⟩) 104 104) ∧ Byt w' (some ⟨q, 0, none⟩) 104 (((k ++ r) ++ E) ++ t) ∧ (w.heap.size ≤ q ∧ q < w'.heap.size) ∧ Chg [] w w' := by
 have hgp := (Array.getElem?_eq_some_iff.1 hp).1
 refine calls_of_wp Tryd.func92 rfl ?_
 refine wp_seq (reg ?_)
 refine rP 0 4 (.slice none 0 0) rfl rfl ?_
 refine rEnd 1 rfl (nxt (wp_seq (wp_seq (reg ?_))))
 refine rP 0 12 (.slice (some ⟨gp, 0, none⟩) 4 4) rfl rfl ?_
 refine rP 1 13 (.int .i64 4) rfl rfl ?_
 refine rQ 2 14 _ rfl rfl (qboolF (b := ((4 : Int) == (0 : Int))) (beq_eq_false_iff_ne.2 (by decide))) ?_
 refine rEnd 3 rfl (nxt (wp_cond_false (by kernel_rfl) (wp_skip (nxt (wp_seq (wp_seq (reg ?_)))))))
 refine rP 0 16 (.slice (some ⟨gp, 0, none⟩) 4 4) rfl rfl ?_
 refine rP 1 17 (.int .i64 4) rfl rfl ?_
 refine rQ 2 18 _ rfl rfl (qboolF (b := ((4 : Int) == (1 : Int))) (beq_eq_false_iff_ne.2 (by decide))) ?_
 refine rEnd 3 rfl (nxt (wp_cond_false (by kernel_rfl) (wp_skip (nxt (wp_seq (reg ?_))))))
 refine rP 0 5 (.int .i64 0) rfl rfl ?_
 refine rEnd 1 rfl (nxt (wp_seq (wp_seq (reg ?_))))
 refine rP 0 23 (.slice none 0 0) rfl rfl ?_
 refine rP 1 24 (.int .i64 0) rfl rfl ?_
 refine rQ 2 25 _ rfl rfl (qboolF (b := decide ((0 : Int) > (0 : Int))) (decide_eq_false (by decide))) ?_
 refine rEnd 3 rfl (nxt (wp_cond_false (by kernel_rfl) (wp_skip (nxt (wp_seq (wp_seq (reg ?_)))))))
 refine rP 0 42 (.slice (some ⟨gp, 0, none⟩) 4 4) rfl rfl ?_
 refine rP 1 43 (.int .i64 4) rfl rfl ?_
 refine rP 2 44 (.int .i64 0) rfl rfl ?_
 refine rEnd 3 rfl (nxt (wp_block ?_))
 refine Wk.loopN 5 ?_
 refine Wk.rdS (wp_seq (reg ?_))
 refine rQ 0 45 _ rfl rfl (qboolT (b := decide ((0 : Int) < (4 : Int))) (decide_eq_true (by decide))) ?_
 refine rEnd 1 rfl (nxt (wp_seq (wp_cond_true (by kernel_rfl) (wp_skip (nxt (wp_seq (wp_block (wp_seq (reg ?_)))))))))
 refine rQ 0 46 (pt gp 0) rfl rfl (index_sl 127 22 (.tmp 42) (.tmp 44) rfl Tryd.underlying127 1 (by kernel_rfl) gp 0 4 4 0 .i64 (by kernel_rfl) (by kernel_rfl) (by omega)) ?_
 refine rQ 1 47 _ rfl rfl (ld 22 46 gp 0 (.slice A1 32 c1) ((cell_of_row _ _ 0 _ _ _ hp).trans rfl)) ?_
 refine rP 2 7 (.slice A1 32 c1) rfl rfl ?_
 refine rEnd 3 rfl (nxt (wp_seq (wp_seq (reg ?_))))
 refine rP 0 48 (.slice A1 32 c1) rfl rfl ?_
 refine rP 1 49 (.int .i64 32) rfl rfl ?_
 refine rP 2 50 (.int .i64 0) rfl rfl ?_
 refine rQ 3 51 _ rfl rfl (qint64 (n := 9223372036854775807 - 0) (z := 9223372036854775807) (by omega) (by omega) (by omega)) ?_
 refine rQ 4 52 _ rfl rfl (qboolF (b := decide ((32 : Int) > (9223372036854775807 : Int))) (decide_eq_false (by decide))) ?_
 refine rEnd 5 rfl (nxt (wp_cond_false (by kernel_rfl) (wp_skip (nxt (reg ?_)))))
 refine rP 0 54 (.int .i64 0) rfl rfl ?_
 refine rP 1 55 (.slice A1 32 c1) rfl rfl ?_
 refine rP 2 56 (.int .i64 32) rfl rfl ?_
 refine rQ 3 57 _ rfl rfl (qint64 (n := 0 + 32) (z := 32) (by omega) (by omega) (by omega)) ?_
 refine rP 4 5 (.int .i64 32) rfl rfl ?_
 refine rEnd 5 rfl (inN (nxt (reg ?_)))
 refine rQ 0 58 _ rfl rfl (qint64 (n := 0 + 1) (z := 1) (by omega) (by omega) (by omega)) ?_
 refine rP 1 44 (.int .i64 1) rfl rfl ?_
 refine rEnd 2 rfl (nxt (Wk.rdS (wp_seq (reg ?_))))
 refine rQ 0 45 _ rfl rfl (qboolT (b := decide ((1 : Int) < (4 : Int))) (decide_eq_true (by decide))) ?_
 refine rEnd 1 rfl (nxt (wp_seq (wp_cond_true (by kernel_rfl) (wp_skip (nxt (wp_seq (wp_block (wp_seq (reg ?_)))))))))
 refine rQ 0 46 (pt gp 1) rfl rfl (index_sl 127 22 (.tmp 42) (.tmp 44) rfl Tryd.underlying127 1 (by kernel_rfl) gp 0 4 4 1 .i64 (by kernel_rfl) (by kernel_rfl) (by omega)) ?_
 refine rQ 1 47 _ rfl rfl (ld 22 46 gp 1 (.slice A2 32 c2) ((cell_of_row _ _ 1 _ _ _ hp).trans rfl)) ?_
 refine rP 2 7 (.slice A2 32 c2) rfl rfl ?_
 refine rEnd 3 rfl (nxt (wp_seq (wp_seq (reg ?_))))
 refine rP 0 48 (.slice A2 32 c2) rfl rfl ?_
 refine rP 1 49 (.int .i64 32) rfl rfl ?_
 refine rP 2 50 (.int .i64 32) rfl rfl ?_
 refine rQ 3 51 _ rfl rfl (qint64 (n := 9223372036854775807 - 32) (z := 9223372036854775775) (by omega) (by omega) (by omega)) ?_
 refine rQ 4 52 _ rfl rfl (qboolF (b := decide ((32 : Int) > (9223372036854775775 : Int))) (decide_eq_false (by decide))) ?_
 refine rEnd 5 rfl (nxt (wp_cond_false (by kernel_rfl) (wp_skip (nxt (reg ?_)))))
 refine rP 0 54 (.int .i64 32) rfl rfl ?_
 refine rP 1 55 (.slice A2 32 c2) rfl rfl ?_
 refine rP 2 56 (.int .i64 32) rfl rfl ?_
 refine rQ 3 57 _ rfl rfl (qint64 (n := 32 + 32) (z := 64) (by omega) (by omega) (by omega)) ?_
 refine rP 4 5 (.int .i64 64) rfl rfl ?_
 refine rEnd 5 rfl (inN (nxt (reg ?_)))
 refine rQ 0 58 _ rfl rfl (qint64 (n := 1 + 1) (z := 2) (by omega) (by omega) (by omega)) ?_
 refine rP 1 44 (.int .i64 2) rfl rfl ?_
 refine rEnd 2 rfl (nxt (Wk.rdS (wp_seq (reg ?_))))
 refine rQ 0 45 _ rfl rfl (qboolT (b := decide ((2 : Int) < (4 : Int))) (decide_eq_true (by decide))) ?_
 refine rEnd 1 rfl (nxt (wp_seq (wp_cond_true (by kernel_rfl) (wp_skip (nxt (wp_seq (wp_block (wp_seq (reg ?_)))))))))
 refine rQ 0 46 (pt gp 2) rfl rfl (index_sl 127 22 (.tmp 42) (.tmp 44) rfl Tryd.underlying127 1 (by kernel_rfl) gp 0 4 4 2 .i64 (by kernel_rfl) (by kernel_rfl) (by omega)) ?_
 refine rQ 1 47 _ rfl rfl (ld 22 46 gp 2 (.slice A3 8 c3) ((cell_of_row _ _ 2 _ _ _ hp).trans rfl)) ?_
 refine rP 2 7 (.slice A3 8 c3) rfl rfl ?_
 refine rEnd 3 rfl (nxt (wp_seq (wp_seq (reg ?_))))
 refine rP 0 48 (.slice A3 8 c3) rfl rfl ?_
 refine rP 1 49 (.int .i64 8) rfl rfl ?_
 refine rP 2 50 (.int .i64 64) rfl rfl ?_
 refine rQ 3 51 _ rfl rfl (qint64 (n := 9223372036854775807 - 64) (z := 9223372036854775743) (by omega) (by omega) (by omega)) ?_
 refine rQ 4 52 _ rfl rfl (qboolF (b := decide ((8 : Int) > (9223372036854775743 : Int))) (decide_eq_false (by decide))) ?_
 refine rEnd 5 rfl (nxt (wp_cond_false (by kernel_rfl) (wp_skip (nxt (reg ?_)))))
 refine rP 0 54 (.int .i64 64) rfl rfl ?_
 refine rP 1 55 (.slice A3 8 c3) rfl rfl ?_
 refine rP 2 56 (.int .i64 8) rfl rfl ?_
 refine rQ 3 57 _ rfl rfl (qint64 (n := 64 + 8) (z := 72) (by omega) (by omega) (by omega)) ?_
 refine rP 4 5 (.int .i64 72) rfl rfl ?_
 refine rEnd 5 rfl (inN (nxt (reg ?_)))
 refine rQ 0 58 _ rfl rfl (qint64 (n := 2 + 1) (z := 3) (by omega) (by omega) (by omega)) ?_
 refine rP 1 44 (.int .i64 3) rfl rfl ?_
 refine rEnd 2 rfl (nxt (Wk.rdS (wp_seq (reg ?_))))
 refine rQ 0 45 _ rfl rfl (qboolT (b := decide ((3 : Int) < (4 : Int))) (decide_eq_true (by decide))) ?_
 refine rEnd 1 rfl (nxt (wp_seq (wp_cond_true (by kernel_rfl) (wp_skip (nxt (wp_seq (wp_block (wp_seq (reg ?_)))))))))
 refine rQ 0 46 (pt gp 3) rfl rfl (index_sl 127 22 (.tmp 42) (.tmp 44) rfl Tryd.underlying127 1 (by kernel_rfl) gp 0 4 4 3 .i64 (by kernel_rfl) (by kernel_rfl) (by omega)) ?_
 refine rQ 1 47 _ rfl rfl (ld 22 46 gp 3 (.slice A4 32 c4) ((cell_of_row _ _ 3 _ _ _ hp).trans rfl)) ?_
 refine rP 2 7 (.slice A4 32 c4) rfl rfl ?_
 refine rEnd 3 rfl (nxt (wp_seq (wp_seq (reg ?_))))
 refine rP 0 48 (.slice A4 32 c4) rfl rfl ?_
 refine rP 1 49 (.int .i64 32) rfl rfl ?_
 refine rP 2 50 (.int .i64 72) rfl rfl ?_
 refine rQ 3 51 _ rfl rfl (qint64 (n := 9223372036854775807 - 72) (z := 9223372036854775735) (by omega) (by omega) (by omega)) ?_
 refine rQ 4 52 _ rfl rfl (qboolF (b := decide ((32 : Int) > (9223372036854775735 : Int))) (decide_eq_false (by decide))) ?_
 refine rEnd 5 rfl (nxt (wp_cond_false (by kernel_rfl) (wp_skip (nxt (reg ?_)))))
 refine rP 0 54 (.int .i64 72) rfl rfl ?_
 refine rP 1 55 (.slice A4 32 c4) rfl rfl ?_
 refine rP 2 56 (.int .i64 32) rfl rfl ?_
 refine rQ 3 57 _ rfl rfl (qint64 (n := 72 + 32) (z := 104) (by omega) (by omega) (by omega)) ?_
 refine rP 4 5 (.int .i64 104) rfl rfl ?_
 refine rEnd 5 rfl (inN (nxt (reg ?_)))
 refine rQ 0 58 _ rfl rfl (qint64 (n := 3 + 1) (z := 4) (by omega) (by omega) (by omega)) ?_
 refine rP 1 44 (.int .i64 4) rfl rfl ?_
 refine rEnd 2 rfl (nxt (Wk.rdS (wp_seq (reg ?_))))
 refine rQ 0 45 _ rfl rfl (qboolF (b := decide ((4 : Int) < (4 : Int))) (decide_eq_false (by decide))) ?_
 refine rEnd 1 rfl (nxt (wp_seq (wp_cond_false (by kernel_rfl) (wp_exit (thX (thX (inX (nxt (wp_seq (reg ?_))))))))))
 refine rP 0 59 (.int .i64 104) rfl rfl ?_
 refine rX 1 60 rfl rfl (Mur.run_nz Tryd.f98.params 22 5 Tryd.func98 (by kernel_rfl) (by kernel_rfl) (by kernel_rfl) (by kernel_rfl) Tryd.underlying22 (.tmp 59) _ rfl 104 (by kernel_rfl) (by omega)) ?_
 rintro _ W1 ⟨cs1, rfl, hb1, hl1, ch1, sz1⟩
 have zz1 := ch1.size
 refine rP 2 61 (.int .i64 104) rfl rfl ?_
 refine rP 3 62 (.int .i64 104) rfl rfl ?_
 refine rQ 4 63 (.slice (some ⟨w.heap.size, 0, none⟩) 104 104) rfl rfl (Mur.run_cut3 22 (.tmp 60) none (.tmp 61) (.tmp 62) rfl 5 Tryd.underlying22 (by kernel_rfl) w.heap.size 0 104 cs1.length 0 104 104 104 (by kernel_rfl) (.inr ⟨rfl, rfl⟩) (by kernel_rfl) (by kernel_rfl) rfl rfl (by omega) (by omega)) ?_
 refine rP 5 8 (.slice (some ⟨w.heap.size, 0, none⟩) 104 104) rfl rfl ?_
 refine rEnd 6 rfl (nxt (wp_seq (reg ?_)))
 refine rP 0 64 (.slice (some ⟨w.heap.size, 0, none⟩) 104 104) rfl rfl ?_
 refine rP 1 65 (.slice (some ⟨gp, 0, none⟩) 4 4) rfl rfl ?_
 refine rQ 2 66 (pt gp 0) rfl rfl (index_sl 127 22 (.tmp 65) (.const (.int .i64 0)) rfl Tryd.underlying127 1 (by kernel_rfl) gp 0 4 4 0 .i64 (by kernel_rfl) (by kernel_rfl) (by omega)) ?_
 have kk1 : Chg [] w W1 := Chg.step ((Chg.refl _).more (by simp)) ch1 trivial
 refine rQ 3 67 _ rfl rfl (ld 22 66 gp 0 (.slice A1 32 c1) ((cell_of_row _ _ 0 _ _ _ (Chg.hp kk1 hp trivial)).trans rfl)) ?_
 refine rX 4 68 rfl rfl (Mur.copy_mid (.tmp 64) (.tmp 67) 22 22 rfl 5 Tryd.underlying22 (by kernel_rfl) w.heap.size 0 104 104 (by kernel_rfl) A1 32 c1 (by kernel_rfl) 5 (b8s ([]) ++ cs1.drop 0) k hb1 (Mur.byt_chg hy1 kk1 (fun g off e hl => trivial)) (by omega) (by omega) (by have hfl_ := Mur.fill_len (cs := cs1) (acc := []) (p := 0) (rfl : ([] : List UInt8).length = 0) (by omega); omega) (b8s (k) ++ cs1.drop 32) (Mur.fill_step (rfl : ([] : List UInt8).length = 0) hy1.1 rfl (by omega))) ?_
 rintro _ W2 ⟨rfl, hb2, ch2⟩
 have zz2 := ch2.size
 refine rP 5 9 (.int .i64 32) rfl rfl ?_
 refine rEnd 6 rfl (nxt (wp_seq (wp_seq (reg ?_))))
 refine rP 0 69 (.slice (some ⟨gp, 0, none⟩) 4 4) rfl rfl ?_
 refine rQ 1 70 (.slice (some ⟨gp, 1, none⟩) 3 3) rfl rfl (Mur.run_from_at 127 (.tmp 69) (.const (.int .i64 1)) rfl 22 Tryd.underlying127 (by kernel_rfl) gp 0 4 4 1 3 (by kernel_rfl) (by kernel_rfl) (by omega) (by omega) rfl) ?_
 refine rP 2 71 (.int .i64 3) rfl rfl ?_
 refine rP 3 72 (.int .i64 0) rfl rfl ?_
 refine rEnd 4 rfl (nxt (wp_block ?_))
 refine Wk.loopN 4 ?_
 refine Wk.rdS (wp_seq (reg ?_))
 refine rQ 0 73 _ rfl rfl (qboolT (b := decide ((0 : Int) < (3 : Int))) (decide_eq_true (by decide))) ?_
 refine rEnd 1 rfl (nxt (wp_seq (wp_cond_true (by kernel_rfl) (wp_skip (nxt (wp_seq (wp_block (wp_seq (reg ?_)))))))))
 refine rQ 0 74 (pt gp 1) rfl rfl (index_sl 127 22 (.tmp 70) (.tmp 72) rfl Tryd.underlying127 1 (by kernel_rfl) gp 1 3 3 0 .i64 (by kernel_rfl) (by kernel_rfl) (by omega)) ?_
 have kk2 := Chg.step kk1 ch2 ⟨.inr (by omega), trivial⟩
 refine rQ 1 75 _ rfl rfl (ld 22 74 gp 1 (.slice A2 32 c2) ((cell_of_row _ _ 1 _ _ _ (Chg.hp kk2 hp trivial)).trans rfl)) ?_
 refine rP 2 11 (.slice A2 32 c2) rfl rfl ?_
 refine rEnd 3 rfl (nxt (wp_seq (reg ?_)))
 refine rP 0 76 (.int .i64 32) rfl rfl ?_
 refine rP 1 77 (.slice (some ⟨w.heap.size, 0, none⟩) 104 104) rfl rfl ?_
 refine rP 2 78 (.int .i64 32) rfl rfl ?_
 refine rQ 3 79 (.slice (some ⟨w.heap.size, 32, none⟩) 72 72) rfl rfl (Mur.run_from_at 22 (.tmp 77) (.tmp 78) rfl 5 Tryd.underlying22 (by kernel_rfl) w.heap.size 0 104 104 32 72 (by kernel_rfl) (by kernel_rfl) (by omega) (by omega) rfl) ?_
 refine rP 4 80 (.slice none 0 0) rfl rfl ?_
 refine rQ 5 81 (.int .i64 0) rfl rfl (Mur.copy_none (.tmp 79) (.tmp 80) 22 22 rfl 5 Tryd.underlying22 (by kernel_rfl) ⟨w.heap.size, 32, none⟩ 72 72 (by kernel_rfl) (by kernel_rfl)) ?_
 refine rQ 6 82 _ rfl rfl (qint64 (n := 32 + 0) (z := 32) (by omega) (by omega) (by omega)) ?_
 refine rP 7 9 (.int .i64 32) rfl rfl ?_
 refine rEnd 8 rfl (nxt (reg ?_))
 refine rP 0 83 (.int .i64 32) rfl rfl ?_
 refine rP 1 84 (.slice (some ⟨w.heap.size, 0, none⟩) 104 104) rfl rfl ?_
 refine rP 2 85 (.int .i64 32) rfl rfl ?_
 refine rQ 3 86 (.slice (some ⟨w.heap.size, 32, none⟩) 72 72) rfl rfl (Mur.run_from_at 22 (.tmp 84) (.tmp 85) rfl 5 Tryd.underlying22 (by kernel_rfl) w.heap.size 0 104 104 32 72 (by kernel_rfl) (by kernel_rfl) (by omega) (by omega) rfl) ?_
 refine rP 4 87 (.slice A2 32 c2) rfl rfl ?_
 refine rX 5 88 rfl rfl (Mur.copy_mid (.tmp 86) (.tmp 87) 22 22 rfl 5 Tryd.underlying22 (by kernel_rfl) w.heap.size 32 72 72 (by kernel_rfl) A2 32 c2 (by kernel_rfl) 5 (b8s (k) ++ cs1.drop 32) r hb2 (Mur.byt_chg hy2 kk2 (fun g off e hl => trivial)) (by omega) (by omega) (by have hfl_ := Mur.fill_len (cs := cs1) (acc := k) (p := 32) hy1.1 (by omega); omega) (b8s (k ++ r) ++ cs1.drop 64) (Mur.fill_step hy1.1 hy2.1 rfl (by omega))) ?_
 rintro _ W3 ⟨rfl, hb3, ch3⟩
 have zz3 := ch3.size
 refine rQ 6 89 _ rfl rfl (qint64 (n := 32 + 32) (z := 64) (by omega) (by omega) (by omega)) ?_
 refine rP 7 9 (.int .i64 64) rfl rfl ?_
 refine rEnd 8 rfl (inN (nxt (reg ?_)))
 refine rQ 0 90 _ rfl rfl (qint64 (n := 0 + 1) (z := 1) (by omega) (by omega) (by omega)) ?_
 refine rP 1 72 (.int .i64 1) rfl rfl ?_
 refine rEnd 2 rfl (nxt (Wk.rdS (wp_seq (reg ?_))))
 refine rQ 0 73 _ rfl rfl (qboolT (b := decide ((1 : Int) < (3 : Int))) (decide_eq_true (by decide))) ?_
 refine rEnd 1 rfl (nxt (wp_seq (wp_cond_true (by kernel_rfl) (wp_skip (nxt (wp_seq (wp_block (wp_seq (reg ?_)))))))))
 refine rQ 0 74 (pt gp 2) rfl rfl (index_sl 127 22 (.tmp 70) (.tmp 72) rfl Tryd.underlying127 1 (by kernel_rfl) gp 1 3 3 1 .i64 (by kernel_rfl) (by kernel_rfl) (by omega)) ?_
 have kk3 := Chg.step kk2 ch3 ⟨.inr (by omega), trivial⟩
 refine rQ 1 75 _ rfl rfl (ld 22 74 gp 2 (.slice A3 8 c3) ((cell_of_row _ _ 2 _ _ _ (Chg.hp kk3 hp trivial)).trans rfl)) ?_
 refine rP 2 11 (.slice A3 8 c3) rfl rfl ?_
 refine rEnd 3 rfl (nxt (wp_seq (reg ?_)))
 refine rP 0 76 (.int .i64 64) rfl rfl ?_
 refine rP 1 77 (.slice (some ⟨w.heap.size, 0, none⟩) 104 104) rfl rfl ?_
 refine rP 2 78 (.int .i64 64) rfl rfl ?_
 refine rQ 3 79 (.slice (some ⟨w.heap.size, 64, none⟩) 40 40) rfl rfl (Mur.run_from_at 22 (.tmp 77) (.tmp 78) rfl 5 Tryd.underlying22 (by kernel_rfl) w.heap.size 0 104 104 64 40 (by kernel_rfl) (by kernel_rfl) (by omega) (by omega) rfl) ?_
 refine rP 4 80 (.slice none 0 0) rfl rfl ?_
 refine rQ 5 81 (.int .i64 0) rfl rfl (Mur.copy_none (.tmp 79) (.tmp 80) 22 22 rfl 5 Tryd.underlying22 (by kernel_rfl) ⟨w.heap.size, 64, none⟩ 40 40 (by kernel_rfl) (by kernel_rfl)) ?_
 refine rQ 6 82 _ rfl rfl (qint64 (n := 64 + 0) (z := 64) (by omega) (by omega) (by omega)) ?_
 refine rP 7 9 (.int .i64 64) rfl rfl ?_
 refine rEnd 8 rfl (nxt (reg ?_))
 refine rP 0 83 (.int .i64 64) rfl rfl ?_
 refine rP 1 84 (.slice (some ⟨w.heap.size, 0, none⟩) 104 104) rfl rfl ?_
 refine rP 2 85 (.int .i64 64) rfl rfl ?_
 refine rQ 3 86 (.slice (some ⟨w.heap.size, 64, none⟩) 40 40) rfl rfl (Mur.run_from_at 22 (.tmp 84) (.tmp 85) rfl 5 Tryd.underlying22 (by kernel_rfl) w.heap.size 0 104 104 64 40 (by kernel_rfl) (by kernel_rfl) (by omega) (by omega) rfl) ?_
 refine rP 4 87 (.slice A3 8 c3) rfl rfl ?_
 refine rX 5 88 rfl rfl (Mur.copy_mid (.tmp 86) (.tmp 87) 22 22 rfl 5 Tryd.underlying22 (by kernel_rfl) w.heap.size 64 40 40 (by kernel_rfl) A3 8 c3 (by kernel_rfl) 5 (b8s (k ++ r) ++ cs1.drop 64) E hb3 (Mur.byt_chg hy3 kk3 (fun g off e hl => trivial)) (by omega) (by omega) (by have hfl_ := Mur.fill_len (cs := cs1) (acc := k ++ r) (p := 64) (by simp only [List.length_append]; have := hy1.1; have := hy2.1; have := hy3.1; omega) (by omega); omega) (b8s ((k ++ r) ++ E) ++ cs1.drop 72) (Mur.fill_step (by simp only [List.length_append]; have := hy1.1; have := hy2.1; have := hy3.1; omega) hy3.1 rfl (by omega))) ?_
 rintro _ W4 ⟨rfl, hb4, ch4⟩
 have zz4 := ch4.size
 refine rQ 6 89 _ rfl rfl (qint64 (n := 64 + 8) (z := 72) (by omega) (by omega) (by omega)) ?_
 refine rP 7 9 (.int .i64 72) rfl rfl ?_
 refine rEnd 8 rfl (inN (nxt (reg ?_)))
 refine rQ 0 90 _ rfl rfl (qint64 (n := 1 + 1) (z := 2) (by omega) (by omega) (by omega)) ?_
 refine rP 1 72 (.int .i64 2) rfl rfl ?_
 refine rEnd 2 rfl (nxt (Wk.rdS (wp_seq (reg ?_))))
 refine rQ 0 73 _ rfl rfl (qboolT (b := decide ((2 : Int) < (3 : Int))) (decide_eq_true (by decide))) ?_
 refine rEnd 1 rfl (nxt (wp_seq (wp_cond_true (by kernel_rfl) (wp_skip (nxt (wp_seq (wp_block (wp_seq (reg ?_)))))))))
 refine rQ 0 74 (pt gp 3) rfl rfl (index_sl 127 22 (.tmp 70) (.tmp 72) rfl Tryd.underlying127 1 (by kernel_rfl) gp 1 3 3 2 .i64 (by kernel_rfl) (by kernel_rfl) (by omega)) ?_
 have kk4 := Chg.step kk3 ch4 ⟨.inr (by omega), trivial⟩
 refine rQ 1 75 _ rfl rfl (ld 22 74 gp 3 (.slice A4 32 c4) ((cell_of_row _ _ 3 _ _ _ (Chg.hp kk4 hp trivial)).trans rfl)) ?_
 refine rP 2 11 (.slice A4 32 c4) rfl rfl ?_
 refine rEnd 3 rfl (nxt (wp_seq (reg ?_)))
 refine rP 0 76 (.int .i64 72) rfl rfl ?_
 refine rP 1 77 (.slice (some ⟨w.heap.size, 0, none⟩) 104 104) rfl rfl ?_
 refine rP 2 78 (.int .i64 72) rfl rfl ?_
 refine rQ 3 79 (.slice (some ⟨w.heap.size, 72, none⟩) 32 32) rfl rfl (Mur.run_from_at 22 (.tmp 77) (.tmp 78) rfl 5 Tryd.underlying22 (by kernel_rfl) w.heap.size 0 104 104 72 32 (by kernel_rfl) (by kernel_rfl) (by omega) (by omega) rfl) ?_
 refine rP 4 80 (.slice none 0 0) rfl rfl ?_
 refine rQ 5 81 (.int .i64 0) rfl rfl (Mur.copy_none (.tmp 79) (.tmp 80) 22 22 rfl 5 Tryd.underlying22 (by kernel_rfl) ⟨w.heap.size, 72, none⟩ 32 32 (by kernel_rfl) (by kernel_rfl)) ?_
 refine rQ 6 82 _ rfl rfl (qint64 (n := 72 + 0) (z := 72) (by omega) (by omega) (by omega)) ?_
 refine rP 7 9 (.int .i64 72) rfl rfl ?_
 refine rEnd 8 rfl (nxt (reg ?_))
 refine rP 0 83 (.int .i64 72) rfl rfl ?_
 refine rP 1 84 (.slice (some ⟨w.heap.size, 0, none⟩) 104 104) rfl rfl ?_
 refine rP 2 85 (.int .i64 72) rfl rfl ?_
 refine rQ 3 86 (.slice (some ⟨w.heap.size, 72, none⟩) 32 32) rfl rfl (Mur.run_from_at 22 (.tmp 84) (.tmp 85) rfl 5 Tryd.underlying22 (by kernel_rfl) w.heap.size 0 104 104 72 32 (by kernel_rfl) (by kernel_rfl) (by omega) (by omega) rfl) ?_
 refine rP 4 87 (.slice A4 32 c4) rfl rfl ?_
 refine rX 5 88 rfl rfl (Mur.copy_mid (.tmp 86) (.tmp 87) 22 22 rfl 5 Tryd.underlying22 (by kernel_rfl) w.heap.size 72 32 32 (by kernel_rfl) A4 32 c4 (by kernel_rfl) 5 (b8s ((k ++ r) ++ E) ++ cs1.drop 72) t hb4 (Mur.byt_chg hy4 kk4 (fun g off e hl => trivial)) (by omega) (by omega) (by have hfl_ := Mur.fill_len (cs := cs1) (acc := (k ++ r) ++ E) (p := 72) (by simp only [List.length_append]; have := hy1.1; have := hy2.1; have := hy3.1; omega) (by omega); omega) (b8s (((k ++ r) ++ E) ++ t) ++ cs1.drop 104) (Mur.fill_step (by simp only [List.length_append]; have := hy1.1; have := hy2.1; have := hy3.1; omega) hy4.1 rfl (by omega))) ?_
 rintro _ W5 ⟨rfl, hb5, ch5⟩
 have zz5 := ch5.size
 refine rQ 6 89 _ rfl rfl (qint64 (n := 72 + 32) (z := 104) (by omega) (by omega) (by omega)) ?_
 refine rP 7 9 (.int .i64 104) rfl rfl ?_
 refine rEnd 8 rfl (inN (nxt (reg ?_)))
 refine rQ 0 90 _ rfl rfl (qint64 (n := 2 + 1) (z := 3) (by omega) (by omega) (by omega)) ?_
 refine rP 1 72 (.int .i64 3) rfl rfl ?_
 refine rEnd 2 rfl (nxt (Wk.rdS (wp_seq (reg ?_))))
 refine rQ 0 73 _ rfl rfl (qboolF (b := decide ((3 : Int) < (3 : Int))) (decide_eq_false (by decide))) ?_
 refine rEnd 1 rfl (nxt (wp_seq (wp_cond_false (by kernel_rfl) (wp_exit (thX (thX (inX (nxt (wp_seq (reg ?_))))))))))
 refine rP 0 91 (.slice (some ⟨w.heap.size, 0, none⟩) 104 104) rfl rfl ?_
 refine rP 1 4 (.slice (some ⟨w.heap.size, 0, none⟩) 104 104) rfl rfl ?_
 refine rEnd 2 rfl (nxt (wp_ret ?_))
 have kk5 := Chg.step kk4 ch5 ⟨.inr (by omega), trivial⟩
 refine Wk.ret (.slice (some ⟨w.heap.size, 0, none⟩) 104 104) rfl (by kernel_rfl) ?_
 exact ⟨w.heap.size, rfl, Mur.byt_fill hb5 (by simp only [List.length_append]; have := hy1.1; have := hy2.1; have := hy3.1; have := hy4.1; omega), ⟨by omega, by omega⟩, kk5⟩
end Go.Proofs.YtgbadghjnpbiaaaDoor
namespace Go.Proofs.YtgbadghjnpbiaaaDoor
open Go.RowKit Wk
open Mur (b8s Byt Own8 Seg Segs flat cutA attC)
set_option maxRecDepth 100000
set_option maxHeartbeats 4000000
theorem raw_any (k r t : List UInt8) (n : Int) (hk : k.length = 32) (hr : r.length = 32) (ht : t.length = 32) (w : World) : Calls Tryd.prog 75 #[.agg (attC k r n t).toArray] w fun e w' => ∃ q cq B, Hid (B = Mur.rawL k r n t) ∧ e = .returned (.slice (some ⟨q, 0, none⟩) 104 cq) ∧ Byt w' (some ⟨q, 0, none⟩) 104 B ∧ (w.heap.size ≤ q ∧ q < w'.heap.size) ∧ (104 ≤ cq ∧ cq ≤ 9223372036854775807) ∧ Chg [] w w' := by
 refine calls_of_wp Tryd.func75 rfl ?_
 refine wp_seq (reg ?_)
 refine rX 0 1 rfl rfl (new_ex (pt w.heap.size 0) ((Mur.attC k r n t).toArray) 36 (by kernel_rfl)) ?_
 rintro _ W1 ⟨rfl, hb1, ch1, sz1⟩
 have zz1 := ch1.size
 refine rP 1 2 (.slice none 0 0) rfl rfl ?_
 refine rEnd 2 rfl (nxt (wp_seq (reg ?_)))
 refine rP 0 4 (pt w.heap.size 64) rfl rfl ?_
 refine rQ 1 5 _ rfl rfl (ld 3 4 w.heap.size 64 (.int .i64 n) (Mur.att_len hk hr hb1)) ?_
 refine rC 2 6 91 [.tmp 5] #[3] [.int .i64 n] rfl rfl rfl ?_
 refine (eight_any n W1).mono ?_
 rintro _ W2 ⟨e8_1, hd1, hdl1, rfl, ch2⟩
 have zz2 := ch2.size
 refine ⟨_, rfl, ?_⟩
 refine rX 3 3 rfl rfl (new_ex (pt W2.heap.size 0) #[.int .u8 0, .int .u8 0, .int .u8 0, .int .u8 0, .int .u8 0, .int .u8 0, .int .u8 0, .int .u8 0] 144 (by kernel_rfl)) ?_
 rintro _ W3 ⟨rfl, hb2, ch3, sz2⟩
 have zz3 := ch3.size
 refine rY 4 rfl rfl (Mur.storeAll 144 (.tmp 3) (.tmp 6) rfl W2.heap.size (by kernel_rfl) e8_1 8 hdl1 (by kernel_rfl) (by kernel_rfl) 144 #[.int .u8 0, .int .u8 0, .int .u8 0, .int .u8 0, .int .u8 0, .int .u8 0, .int .u8 0, .int .u8 0] hb2 rfl) ?_
 rintro W4 ⟨hb3, ch4⟩
 have zz4 := ch4.size
 refine rEnd 5 rfl (nxt (wp_seq ?_))
 refine dReg ([]) (by kernel_rfl) ?_
 intro W5 ch5 sz3
 have zz5 := ch5.size
 have sS1 : Chg ([]) W5 W5 := (Chg.refl _).more (by simp)
 refine dV 0 7 (pt w.heap.size 0) rfl rfl (fun _ _ => by kernel_rfl) sS1 ?_
 refine dV 1 8 (.slice (some ⟨w.heap.size, 0, none⟩) 32 32) rfl rfl (fun w' hw' => (Mur.arr_slice 29 5 (.tmp 7) 32 rfl Tryd.underlying29 (by kernel_rfl) w.heap.size (by kernel_rfl))) sS1 ?_
 refine dV 2 9 (pt w.heap.size 32) rfl rfl (fun _ _ => by kernel_rfl) sS1 ?_
 refine dV 3 10 (.slice (some ⟨w.heap.size, 32, none⟩) 32 32) rfl rfl (fun w' hw' => (Mur.arr_slice_at 29 5 (.tmp 9) 32 rfl Tryd.underlying29 (by kernel_rfl) w.heap.size 32 (by kernel_rfl))) sS1 ?_
 refine dV 4 11 (.slice (some ⟨W2.heap.size, 0, none⟩) 8 8) rfl rfl (fun w' hw' => (Mur.arr_slice 144 5 (.tmp 3) 8 rfl Tryd.underlying144 (by kernel_rfl) W2.heap.size (by kernel_rfl))) sS1 ?_
 refine dV 5 12 (pt w.heap.size 65) rfl rfl (fun _ _ => by kernel_rfl) sS1 ?_
 refine dV 6 13 (.slice (some ⟨w.heap.size, 65, none⟩) 32 32) rfl rfl (fun w' hw' => (Mur.arr_slice_at 29 5 (.tmp 12) 32 rfl Tryd.underlying29 (by kernel_rfl) w.heap.size 65 (by kernel_rfl))) sS1 ?_
 refine dOp 7 (by kernel_rfl) ?_
 refine oEx (some 14) _ rfl rfl (by kernel_rfl) (new_ex (.slice (some ⟨W5.heap.size, 0, none⟩) 4 4) #[.slice (some ⟨w.heap.size, 0, none⟩) 32 32, .slice (some ⟨w.heap.size, 32, none⟩) 32 32, .slice (some ⟨W2.heap.size, 0, none⟩) 8 8, .slice (some ⟨w.heap.size, 65, none⟩) 32 32] 22 (by kernel_rfl)) ?_
 rintro _ W6 ⟨rfl, hb4, ch6, sz4⟩
 have zz6 := ch6.size
 have sS2 := Chg.step sS1 ch6 trivial
 refine ⟨sS2, ?_⟩
 refine dOp 8 (by kernel_rfl) ?_
 refine oCall (some 15) 92 [.tmp 14, .const (.slice none 0 0)] #[127, 22] [.slice (some ⟨W5.heap.size, 0, none⟩) 4 4, .slice none 0 0] rfl rfl (by kernel_rfl) rfl (by kernel_rfl) (by kernel_rfl) ?_
 refine (Join4_any W5.heap.size 22 (0, 0) (some ⟨w.heap.size, 0, none⟩) (some ⟨w.heap.size, 32, none⟩) (some ⟨W2.heap.size, 0, none⟩) (some ⟨w.heap.size, 65, none⟩) 32 32 8 32 k r e8_1 t W6 hb4 (Mur.byt_rng (Mur.att_key (Chg.hp ch6 (Chg.hp ch5 (Chg.hp ch4 (Chg.hp ch3 (Chg.hp ch2 hb1 trivial) trivial) ⟨by omega, trivial⟩) trivial) trivial)) hk) (Mur.byt_rng (Mur.att_root hk (Chg.hp ch6 (Chg.hp ch5 (Chg.hp ch4 (Chg.hp ch3 (Chg.hp ch2 hb1 trivial) trivial) ⟨by omega, trivial⟩) trivial) trivial)) hr) (Mur.byt_blk e8_1 hdl1 (Chg.hp ch6 (Chg.hp ch5 hb3 trivial) trivial)) (Mur.byt_rng (Mur.att_tag hk hr (Chg.hp ch6 (Chg.hp ch5 (Chg.hp ch4 (Chg.hp ch3 (Chg.hp ch2 hb1 trivial) trivial) ⟨by omega, trivial⟩) trivial) trivial)) ht)).mono ?_
 rintro _ W7 ⟨qj1, rfl, hbj1, hq1, ch7⟩
 have zz7 := ch7.size
 have hBt1 : ∀ g off, (some ⟨qj1, 0, none⟩ : Option Addr) = some ⟨g, off, none⟩ → W6.heap.size ≤ g ∧ g < W7.heap.size := fun g off e => by cases e; exact hq1
 have sS3 := Chg.step sS2 ch7 trivial
 refine ⟨_, rfl, sS3, ?_⟩
 refine dV 9 2 (.slice (some ⟨qj1, 0, none⟩) 104 104) rfl rfl (fun _ _ => by kernel_rfl) sS3 ?_
 refine dEnd (by kernel_rfl) (nxt (wp_ret ?_))
 have kk1 : Chg [] w W1 := Chg.step ((Chg.refl _).more (by simp)) ch1 trivial
 have kk2 := Chg.step kk1 ch2 trivial
 have kk3 := Chg.step kk2 ch3 trivial
 have kk4 := Chg.step kk3 ch4 ⟨.inr (by omega), trivial⟩
 have kk5 := Chg.step kk4 ch5 trivial
 have kk6 := Chg.step kk5 ch6 trivial
 have kk7 := Chg.step kk6 ch7 trivial
 refine Wk.ret (.slice (some ⟨qj1, 0, none⟩) 104 104) rfl (by kernel_rfl) ?_
 exact ⟨_, _, _, Go.Lib.hid (by rw [hd1.out]; rfl), rfl, hbj1, ⟨by omega, by omega⟩, ⟨by omega, by omega⟩, kk7⟩
theorem Compare_any (A : Option Addr) (n c : Nat) (l : List UInt8) (B : Option Addr) (m d : Nat) (r : List UInt8) (w : World) (hy1 : Byt w A n l) (hy2 : Byt w B m r) : Calls Tryd.prog 90 #[.slice A n c, .slice B m d] w fun e w' => e = .returned (.int .i64 (Go.Lib.compareBytes l r)) ∧ w = w' := by
 refine calls_of_wp Tryd.func90 rfl ?_
 refine wp_seq (reg ?_)
 refine rP 0 4 (.int .i64 0) rfl rfl ?_
 refine rEnd 1 rfl (nxt (wp_seq (reg ?_)))
 refine rP 0 5 (.slice A n c) rfl rfl ?_
 refine rP 1 6 (.slice B m d) rfl rfl ?_
 refine rQ 2 7 (.int .i64 (Go.Lib.compareBytes l r)) rfl rfl (Mur.run_cmp Tryd.func97 (by kernel_rfl) (by kernel_rfl) (by kernel_rfl) (by kernel_rfl) (.tmp 5) (.tmp 6) _ rfl A n c l B m d r (by kernel_rfl) (by kernel_rfl) hy1 hy2) ?_
 refine rP 3 4 (.int .i64 (Go.Lib.compareBytes l r)) rfl rfl ?_
 refine rEnd 4 rfl (nxt (wp_ret ?_))
 refine Wk.ret (.int .i64 (Go.Lib.compareBytes l r)) rfl (by kernel_rfl) ?_
 exact ⟨rfl, rfl⟩
theorem Less_any (k1 r1 t1 : List UInt8) (n1 : Int) (hk1 : k1.length = 32) (hr1 : r1.length = 32) (ht1 : t1.length = 32) (k2 r2 t2 : List UInt8) (n2 : Int) (hk2 : k2.length = 32) (hr2 : r2.length = 32) (ht2 : t2.length = 32) (w : World) : Calls Tryd.prog 73 #[.agg (attC k1 r1 n1 t1).toArray, .agg (attC k2 r2 n2 t2).toArray] w fun e w' => e = .returned (.bool (decide (Go.Lib.compareBytes (Mur.rawL k1 r1 n1 t1) (Mur.rawL k2 r2 n2 t2) < 0))) ∧ Chg [] w w' := by
 refine calls_of_wp Tryd.func73 rfl ?_
 refine wp_seq (reg ?_)
 refine rX 0 2 rfl rfl (new_ex (pt w.heap.size 0) ((Mur.attC k1 r1 n1 t1).toArray) 36 (by kernel_rfl)) ?_
 rintro _ W1 ⟨rfl, hb1, ch1, sz1⟩
 have zz1 := ch1.size
 refine rX 1 3 rfl rfl (new_ex (pt W1.heap.size 0) ((Mur.attC k2 r2 n2 t2).toArray) 36 (by kernel_rfl)) ?_
 rintro _ W2 ⟨rfl, hb2, ch2, sz2⟩
 have zz2 := ch2.size
 refine rP 2 4 (.bool false) rfl rfl ?_
 refine rEnd 3 rfl (nxt (wp_seq ?_))
 refine dReg ([]) (by kernel_rfl) ?_
 intro W3 ch3 sz3
 have zz3 := ch3.size
 have sS1 : Chg ([]) W3 W3 := (Chg.refl _).more (by simp)
 refine dV 0 5 (.agg ((Mur.attC k1 r1 n1 t1).toArray)) rfl rfl (fun w' hw' => (Mur.loadArr 36 (.tmp 2) rfl _ Tryd.underlying36 rfl w.heap.size (by kernel_rfl) (Mur.attC k1 r1 n1 t1).toArray 97 (Mur.attC_size hk1 hr1 ht1) (by kernel_rfl) 36 (0, 0) (Chg.hp hw' (Chg.hp ch3 (Chg.hp ch2 hb1 trivial) trivial) trivial))) sS1 ?_
 refine dV 2 7 (.agg ((Mur.attC k2 r2 n2 t2).toArray)) rfl rfl (fun w' hw' => (Mur.loadArr 36 (.tmp 3) rfl _ Tryd.underlying36 rfl W1.heap.size (by kernel_rfl) (Mur.attC k2 r2 n2 t2).toArray 97 (Mur.attC_size hk2 hr2 ht2) (by kernel_rfl) 36 (0, 0) (Chg.hp hw' (Chg.hp ch3 hb2 trivial) trivial))) sS1 ?_
 refine dOp 1 (by kernel_rfl) ?_
 refine oCall (some 6) 75 [.tmp 5] #[36] [.agg ((Mur.attC k1 r1 n1 t1).toArray)] rfl rfl (by kernel_rfl) rfl (by kernel_rfl) (by kernel_rfl) ?_
 refine (raw_any k1 r1 t1 n1 hk1 hr1 ht1 W3).mono ?_
 rintro _ W4 ⟨qr1, cr1, RB1, hRB1, rfl, hbr1, hq1, hq2, ch4⟩
 have zz4 := ch4.size
 have hBt1 : ∀ g off, (some ⟨qr1, 0, none⟩ : Option Addr) = some ⟨g, off, none⟩ → W3.heap.size ≤ g ∧ g < W4.heap.size := fun g off e => by cases e; exact hq1
 have sS2 := Chg.step sS1 ch4 trivial
 refine ⟨_, rfl, sS2, ?_⟩
 refine dOp 3 (by kernel_rfl) ?_
 refine oCall (some 8) 75 [.tmp 7] #[36] [.agg ((Mur.attC k2 r2 n2 t2).toArray)] rfl rfl (by kernel_rfl) rfl (by kernel_rfl) (by kernel_rfl) ?_
 refine (raw_any k2 r2 t2 n2 hk2 hr2 ht2 W4).mono ?_
 rintro _ W5 ⟨qr2, cr2, RB2, hRB2, rfl, hbr2, hq3, hq4, ch5⟩
 have zz5 := ch5.size
 have hBt2 : ∀ g off, (some ⟨qr2, 0, none⟩ : Option Addr) = some ⟨g, off, none⟩ → W4.heap.size ≤ g ∧ g < W5.heap.size := fun g off e => by cases e; exact hq3
 have sS3 := Chg.step sS2 ch5 trivial
 refine ⟨_, rfl, sS3, ?_⟩
 refine dOp 4 (by kernel_rfl) ?_
 refine oCall (some 9) 90 [.tmp 6, .tmp 8] #[22, 22] [.slice (some ⟨qr1, 0, none⟩) 104 cr1, .slice (some ⟨qr2, 0, none⟩) 104 cr2] rfl rfl (by kernel_rfl) rfl (by kernel_rfl) (by kernel_rfl) ?_
 refine (Compare_any (some ⟨qr1, 0, none⟩) 104 cr1 RB1 (some ⟨qr2, 0, none⟩) 104 cr2 RB2 W5 (Mur.byt_chg hbr1 ch5 (fun g off e hl => trivial)) hbr2).mono ?_
 rintro _ _ ⟨rfl, rfl⟩
 refine ⟨_, rfl, sS3, ?_⟩
 by_cases hx1 : (Go.Lib.compareBytes RB1 RB2) < (0 : Int)
 ·refine dV 5 10 (.bool true) rfl rfl (fun w' hw' => (boolT (b := decide ((Go.Lib.compareBytes RB1 RB2) < (0 : Int))) (decide_eq_true (by first | exact hx1 | omega)) (by kernel_rfl))) sS3 ?_
  refine dV 6 4 (.bool true) rfl rfl (fun _ _ => by kernel_rfl) sS3 ?_
  refine dEnd (by kernel_rfl) (nxt (wp_ret ?_))
  have kk1 : Chg [] w W1 := Chg.step ((Chg.refl _).more (by simp)) ch1 trivial
  have kk2 := Chg.step kk1 ch2 trivial
  have kk3 := Chg.step kk2 ch3 trivial
  have kk4 := Chg.step kk3 ch4 trivial
  have kk5 := Chg.step kk4 ch5 trivial
  refine Wk.ret (.bool true) rfl (by kernel_rfl) ?_
  exact ⟨by rw [← hRB1.out, ← hRB2.out, decide_eq_true (by assumption)], kk5⟩
 refine dV 5 10 (.bool false) rfl rfl (fun w' hw' => (boolF (b := decide ((Go.Lib.compareBytes RB1 RB2) < (0 : Int))) (decide_eq_false (by first | exact hx1 | omega)) (by kernel_rfl))) sS3 ?_
 refine dV 6 4 (.bool false) rfl rfl (fun _ _ => by kernel_rfl) sS3 ?_
 refine dEnd (by kernel_rfl) (nxt (wp_ret ?_))
 have kk6 : Chg [] w W1 := Chg.step ((Chg.refl _).more (by simp)) ch1 trivial
 have kk7 := Chg.step kk6 ch2 trivial
 have kk8 := Chg.step kk7 ch3 trivial
 have kk9 := Chg.step kk8 ch4 trivial
 have kk10 := Chg.step kk9 ch5 trivial
 refine Wk.ret (.bool false) rfl (by kernel_rfl) ?_
 exact ⟨by rw [← hRB1.out, ← hRB2.out, decide_eq_false (by assumption)], kk10⟩
end Go.Proofs.YtgbadghjnpbiaaaDoor
namespace Mur
open Go Go.RowKit Wk
section
variable {k r t : List UInt8} {n : Int}
theorem raw_len (hk : k.length = 32) (hr : r.length = 32) (ht : t.length = 32) : (rawL k r n t).length = 104 := by simp only [rawL, List.length_append, hk, hr, ht, e8_length]
theorem raw_eq : rawL k r n t = k ++ (r ++ (e8 (u64n n) ++ t)) := by simp only [rawL, List.append_assoc]
theorem raw_k (hk : k.length = 32) : ((rawL k r n t).take 32).drop 0 = k := by
  rw [raw_eq, List.take_left' hk]
  rfl
theorem raw_r (hk : k.length = 32) (hr : r.length = 32) : ((rawL k r n t).take 64).drop 32 = r := by
  rw [raw_eq, ← List.append_assoc, List.take_left' (by rw [List.length_append, hk, hr]), List.drop_left' hk]
theorem raw_e (hk : k.length = 32) (hr : r.length = 32) : ((rawL k r n t).take 72).drop 64 = e8 (u64n n) := by
  rw [rawL, List.take_left' (by rw [List.length_append, List.length_append, hk, hr, e8_length]), List.drop_left' (by rw [List.length_append, hk, hr])]
theorem raw_t (hk : k.length = 32) (hr : r.length = 32) (ht : t.length = 32) : ((rawL k r n t).take 104).drop 72 = t := by
  rw [List.take_of_length_le (by rw [raw_len hk hr ht]; exact Nat.le_refl _), rawL, List.drop_left' (by rw [List.length_append, List.length_append, hk, hr, e8_length])]
end
theorem u8_ofNat {x : UInt8} {m : Nat} (h : m % 256 = x.toNat) : UInt8.ofNat m = x := UInt8.toNat_inj.1 (by simp; omega)
theorem be_e8 {E : List UInt8} (h : E.length = 8) : e8 (be8 E) = E := by
  rcases E with _ | ⟨a, _ | ⟨b, _ | ⟨c, _ | ⟨d, _ | ⟨e, _ | ⟨f, _ | ⟨g, _ | ⟨i, _ | ⟨j, E⟩⟩⟩⟩⟩⟩⟩⟩⟩ <;> simp at h
  have ha := a.toNat_lt; have hb := b.toNat_lt; have hc := c.toNat_lt; have hd := d.toNat_lt
  have he := e.toNat_lt; have hf := f.toNat_lt; have hg := g.toNat_lt; have hi := i.toNat_lt
  simp only [be8, List.getD_cons_zero, List.getD_cons_succ, e8]
  rw [u8_ofNat (x := a) (by omega), u8_ofNat (x := b) (by omega), u8_ofNat (x := c) (by omega), u8_ofNat (x := d) (by omega), u8_ofNat (x := e) (by omega), u8_ofNat (x := f) (by omega), u8_ofNat (x := g) (by omega), u8_ofNat (x := i) (by omega)]
theorem u64n_nat {V : Nat} (h : V ≤ 5000) : u64n ((V : Nat) : Int) = V := by
  have h1 : IntKind.u64.wrap ((V : Nat) : Int) = ((V : Nat) : Int) % 18446744073709551616 := rfl
  unfold u64n
  rw [h1]
  omega
theorem raw_back {b K R E T : List UInt8} {V : Nat} (hb : b.length = 104) (hK : (b.take 32).drop 0 = K) (hR : (b.take 64).drop 32 = R) (hE : (b.take 72).drop 64 = E) (hT : (b.take 104).drop 72 = T) (hV : be8 E = V) (hm : V ≤ 5000) : rawL K R ((V : Nat) : Int) T = b := by
  have hEl : E.length = 8 := by rw [← hE, List.length_drop, List.length_take, hb]; rfl
  unfold rawL
  rw [u64n_nat hm, ← hV, be_e8 hEl, ← hK, ← hR, ← hE, ← hT]
  have e1 : (b.take 64).drop 32 = (b.drop 32).take 32 := by rw [List.drop_take]
  have e2 : (b.take 72).drop 64 = (b.drop 64).take 8 := by rw [List.drop_take]
  have e3 : (b.take 104).drop 72 = b.drop 72 := by rw [List.take_of_length_le (by omega)]
  have s1 : b.take 64 = b.take 32 ++ (b.drop 32).take 32 := List.take_add (i := 32) (j := 32)
  have s2 : b.take 72 = b.take 64 ++ (b.drop 64).take 8 := List.take_add (i := 64) (j := 8)
  rw [e1, e2, e3, List.drop_zero, ← s1, ← s2, List.take_append_drop]
theorem sub_len {b : List UInt8} {lo hi m : Nat} (hb : b.length = 104) (h : hi ≤ 104) (hm : lo + m = hi) : ((b.take hi).drop lo).length = m := by
  rw [List.length_drop, List.length_take, hb]
  omega
end Mur
namespace Wk
open Go Go.RowKit
def WF (r : Option Nat) : Fence := { Fence.wide with round := r }
structure Keep (F : List Nat) (w w' : World) : Prop where
  size : w.heap.size ≤ w'.heap.size
  block : ∀ k, k ∈ F → w'.heap[k]? = w.heap[k]?
theorem Keep.refl (F : List Nat) (w : World) : Keep F w w := ⟨Nat.le_refl _, fun _ _ => rfl⟩
theorem Keep.trans {F : List Nat} {a b c : World} (h : Keep F a b) (k : Keep F b c) : Keep F a c := ⟨Nat.le_trans h.size k.size, fun i hi => (k.block i hi).trans (h.block i hi)⟩
theorem Keep.of {F S : List Nat} {w w' : World} (h : Chg S w w') (hl : ∀ k, k ∈ F → k < w.heap.size) (ho : ∀ k, k ∈ F → Off k S) : Keep F w w' := ⟨h.size, fun k hk => h.block k (hl k hk) (ho k hk)⟩
theorem Keep.hp {F : List Nat} {w w' : World} (h : Keep F w w') {k : Nat} {o : Obj} (hk : w.heap[k]? = some o) (hm : k ∈ F) : w'.heap[k]? = some o := (h.block k hm).trans hk
theorem Keep.cell {F : List Nat} {w w' : World} (h : Keep F w w') {g o : Nat} {v : Value} (hc : w.cell? ⟨g, o, none⟩ = some v) (hm : g ∈ F) : w'.cell? ⟨g, o, none⟩ = some v :=
  (World.cell?_of_block (w := w) (a := ⟨g, o, none⟩) (h.block g hm)).trans hc
theorem Keep.range {F : List Nat} {w w' : World} (h : Keep F w w') {g o : Nat} {cs : List Value} (hr : w.rangeAt g o cs) (hm : g ∈ F) : w'.rangeAt g o cs := fun j v hv => h.cell (hr j v hv) hm
def Seq {α : Type} (P : Program) (gf : Nat) (lb : Array Value) (encs : α → Array Value) (xs : List α) (F : List Nat) (w : World) : Prop :=
  (∀ k, k ∈ F → k < w.heap.size) ∧
  ∀ (l : Nat) (J : List α → World → Prop) (W : World), Keep F w W →
    (∀ pre A A', J pre A → Chg [] A A' → J pre A') →
    (∀ pre x post A, xs = pre ++ x :: post → J pre A → YieldAt Fence.wide 0 P l (encs x) A fun e A' => e = .returned (.bool true) ∧ J (pre ++ [x]) A' ∧ Keep F A A') →
    J [] W →
    Calls P gf (#[.func (.yield l) #[] #[]] ++ lb) W fun e W' => (∃ v, e = .returned v) ∧ J xs W'
theorem Seq.chg {α : Type} {P : Program} {gf : Nat} {lb : Array Value} {encs : α → Array Value} {xs : List α} {F S : List Nat} {w w' : World} (h : Seq P gf lb encs xs F w) (c : Chg S w w') (ho : ∀ k, k ∈ F → Off k S) : Seq P gf lb encs xs F w' :=
  ⟨fun k hk => Nat.lt_of_lt_of_le (h.1 k hk) c.size, fun l J W hW => h.2 l J W ((Keep.of c h.1 ho).trans hW)⟩
theorem chg_put (w : World) (l : Nat) (o : Obj) : Chg [l] w (w.putObj l o) := ⟨rfl, rfl, rfl, by simp, fun k _ hk => World.putObj_heap_other hk.1⟩
theorem off_of_not {k : Nat} {S : List Nat} (h : k ∉ S) : Off k S := by
  induction S with
  | nil => trivial
  | cons s S ih => exact ⟨fun e => h (by simp [e]), ih fun hk => h (by simp [hk])⟩
def roundEnd (I : World → Prop) (F : List Nat) (A : World) : Exit → Act → World → Prop
  | .normal, _, A' => ∃ S, Chg S A A' ∧ (∀ s, s ∈ S → s < A.heap.size → ∃ o : Obj, A.heap[s]? = some o ∧ o.isCells = true) ∧ (∀ k, k ∈ F → Off k S) ∧ I A'
  | _, _, _ => False
theorem range {P : Program} {g : Operand} {ps : Array Tmp} {assign body : Code} {Q : Exit → Act → World → Prop} {a : Act} {w : World} {α : Type} {gf : Nat} {lb : Array Value} {encs : α → Array Value} {xs : List α} {F : List Nat}
    (hseq : Seq P gf lb encs xs F w) (hg : a.eval g = .func (.func gf) #[] lb) (eg : ∀ args w, (callFunc gf args).run P w = .ok (.enter gf args) w) (hps : ∀ x, (encs x).size = ps.size)
    (I : List α → World → Prop) (hI0 : ∀ pre A A', I pre A → Chg [] A A' → I pre A')
    (hI1 : ∀ pre A A' r o, I pre A → w.heap.size ≤ r → A.heap[r]? = some o → o.isCells = false → Chg [r] A A' → I pre A') (h0 : I [] w)
    (hround : ∀ l pre x post A, xs = pre ++ x :: post → I pre A → w.heap.size ≤ l → l < A.heap.size → (∃ r, A.heap[l]? = some (.loop r)) →
      assign.wpIn (WF (some l)) 0 P (Exit.then (fun a₁ A₁ => Chg [] A A₁ ∧ ∀ A₂, Chg [l] A₁ A₂ → body.wpIn (WF (some l)) 0 P (roundEnd (I (pre ++ [x])) F A₂) a₁ A₂) (fun _ _ _ => False))
        { tmps := (ps.zip (encs x)).foldl (fun t (p, v) => t.setIfInBounds p v) a.tmps, defers := [] } A)
    (hdone : ∀ D W, I xs W → w.heap.size ≤ D → W.heap[D]? = some (.deferred (some [])) → Q .normal { a with defers := { target := .collected D, args := #[] } :: a.defers } W) :
    (Code.rangeFunc g ps assign body).wp P Q a w := by
  refine (wpIn_wide (n := 0)).1 (wpIn_rangeFunc ?_)
  intro fn _
  obtain ⟨rec, hrec⟩ : ∃ rec : LoopState → Option Code → Loop, rec = fun st pe => { state := st, pending := pe, fn, tmps := a.tmps, params := ps, assign, body, defers := w.heap.size } := ⟨_, rfl⟩
  obtain ⟨W1, hW1⟩ : ∃ W1, (w.alloc (.deferred (some []))).alloc (.loop (rec .ready none)) = W1 := ⟨_, rfl⟩
  have hL1 : W1.heap[w.heap.size + 1]? = some (.loop (rec .ready none)) := by
    rw [← hW1]; have := World.alloc_heap_new (w.alloc (.deferred (some []))) (.loop (rec .ready none)); rwa [World.size_alloc] at this
  have hK1 : W1.heap[w.heap.size]? = some (.deferred (some [])) := by
    rw [← hW1]; exact (Below.heap_alloc _ _ _ (by simp)).trans (World.alloc_heap_new w _)
  have hC1 : Chg [] w W1 := by rw [← hW1]; exact (Chg.alloc w _).trans (Chg.alloc _ _)
  refine ⟨w.heap.size + 1, [{ target := .collected w.heap.size, args := #[] }], W1, { target := .fn (.func gf) lb, args := #[.func (.yield (w.heap.size + 1)) #[] #[]] }, W1, gf,
    #[.func (.yield (w.heap.size + 1)) #[] #[]] ++ lb, W1, ?_, ?_, fun _ _ => trivial, ?_, (fun h => by cases h), ?_⟩
  · rw [← hW1, hrec]; exact run_enterLoop_outer _ _ _ _ _
  · simp only [resolve, hg]
    simp [go_sem]
  · simp [invoke, go_sem, eg]
  · refine callsIn_wide.2 ((hseq.2 (w.heap.size + 1) (fun pre W => I pre W ∧ W.heap[w.heap.size + 1]? = some (.loop (rec .ready none)) ∧ W.heap[w.heap.size]? = some (.deferred (some []))) W1 (Keep.of hC1 hseq.1 fun _ _ => trivial)
      (fun pre A A' h c => ⟨hI0 pre A A' h.1 c, c.hp h.2.1 trivial, c.hp h.2.2 trivial⟩) ?_ ⟨hI0 _ _ _ h0 hC1, hL1, hK1⟩).mono ?_)
    · rintro pre x post A hx ⟨hi, hl, hk⟩
      have hlt : w.heap.size + 1 < A.heap.size := (Array.getElem?_eq_some_iff.1 hl).1
      have hy := run_yield (P := P) (args := encs x) hl (by rw [hrec]; exact hps x)
      rw [hrec] at hy
      refine ⟨fn, _, assign, body, hy, roundIn_of_wpIn (F := Fence.wide) trivial ?_⟩
      refine wpIn_mono (hround (w.heap.size + 1) pre x post A hx hi (by omega) hlt ⟨_, hl⟩) ?_
      intro e a₁ A₁ hq
      cases e with
      | normal =>
        obtain ⟨hc1, hbody⟩ := hq
        have hl1 := hc1.hp hl trivial
        have hk1 := hc1.hp hk trivial
        have hsz1 := hc1.size
        refine ⟨_, run_beginRound hl1 (by rw [hrec]), ?_⟩
        have hc2 := chg_put A₁ (w.heap.size + 1) (.loop { rec .ready none with state := .busy })
        have hl2 : (A₁.putObj (w.heap.size + 1) (.loop { rec .ready none with state := .busy })).heap[w.heap.size + 1]? = some (.loop { rec .ready none with state := .busy }) := World.putObj_heap_same (by omega)
        have hk2 := hc2.hp hk1 ⟨by omega, trivial⟩
        have hsz2 := hc2.size
        refine wpIn_mono (hbody _ hc2) ?_
        intro e a₃ A₃ hq
        cases e with
        | normal =>
          obtain ⟨S, hS, hcells, hF, hI⟩ := hq
          have hnot : ∀ (k : Nat) (o : Obj), (A₁.putObj (w.heap.size + 1) (.loop { rec .ready none with state := .busy })).heap[k]? = some o → o.isCells = false → Off k S := fun k o ho hoc => off_of_not fun hm => by
            obtain ⟨o', ho', hc'⟩ := hcells k hm (Array.getElem?_eq_some_iff.1 ho).1
            rw [ho] at ho'
            cases ho'
            rw [hoc] at hc'
            cases hc'
          have hl3 := hS.hp hl2 (hnot _ _ hl2 rfl)
          have hk3 := hS.hp hk2 (hnot _ _ hk2 rfl)
          have hlt3 : w.heap.size + 1 < A₃.heap.size := (Array.getElem?_eq_some_iff.1 hl3).1
          have hlt2 : w.heap.size + 1 < (A₁.putObj (w.heap.size + 1) (.loop { rec .ready none with state := .busy })).heap.size := (Array.getElem?_eq_some_iff.1 hl2).1
          have hend := run_endRound (P := P) none hl3
          have hc4 := chg_put A₃ (w.heap.size + 1) (.loop (rec .ready none))
          refine ⟨_, A₃.putObj (w.heap.size + 1) (.loop (rec .ready none)), ?_, rfl, ⟨hI1 _ _ _ _ _ hI (by omega) hl3 rfl hc4, World.putObj_heap_same hlt3, hc4.hp hk3 ⟨by omega, trivial⟩⟩, ?_⟩
          · rw [hend, hrec]; rfl
          · have hlt' : ∀ k, k ∈ F → k < w.heap.size := hseq.1
            refine (Keep.of hc1 (fun k hk => ?_) fun _ _ => trivial).trans ((Keep.of hc2 (fun k hk => ?_) fun k hk => ⟨?_, trivial⟩).trans ((Keep.of hS (fun k hk => ?_) hF).trans (Keep.of hc4 (fun k hk => ?_) fun k hk => ⟨?_, trivial⟩)))
            all_goals (have := hlt' k hk; first | omega | exact Nat.lt_trans (by omega) hlt2 | exact Nat.lt_trans (by omega) hlt3)
        | _ => exact hq.elim
      | _ => exact hq.elim
    · rintro e W2 ⟨⟨v, rfl⟩, hi, hl, hk⟩
      have hlt : w.heap.size + 1 < W2.heap.size := (Array.getElem?_eq_some_iff.1 hl).1
      have hc := chg_put W2 (w.heap.size + 1) (.loop { rec .ready none with state := .exhausted })
      have hend := run_endLoop (P := P) hl (by rw [hrec]; simp)
      have hpn : (rec .ready none).pending = none := by rw [hrec]
      refine ⟨none, W2.putObj (w.heap.size + 1) (.loop { rec .ready none with state := .exhausted }), hend.trans (congrArg (fun z => Result.ok z _) hpn), ?_⟩
      exact hdone _ _ (hI1 _ _ _ _ _ hi (by omega) hl rfl hc) (Nat.le_refl _) (hc.hp hk ⟨by omega, trivial⟩)
structure FromI (r : Option Nat) (P : Program) (ops : Array Oper) (Q : Exit → Act → World → Prop) (i : Nat) (a : Act) (w : World) : Prop where
  out : wpOpsIn (WF r) 0 P ops Q ((List.range ops.size).drop i) a w
section
variable {r : Option Nat} {P : Program} {ops : Array Oper} {Q : Exit → Act → World → Prop} {a : Act} {w w1 : World} {o : Oper}
end
section
variable {P : Program} {a : Act} {w : World} {o : Oper}
theorem run_callv (c : Operand) (f : FuncId) (lb : Array Value) (xs : List Operand) (ts : Array TypeId) (vals : List Value) (ho : o.op = .call { callee := .value c, args := xs.toArray, argTypes := ts }) (hc : a.eval c = .func (.func f) #[] lb) (hv : xs.map a.eval = vals)
    (hrun : (callFunc f (vals.toArray ++ lb)).run P w = .ok (.enter f (vals.toArray ++ lb)) w) : (execOp a.eval o).run P w = .ok (.enter f (vals.toArray ++ lb)) w := by
  obtain ⟨dst, op, ty, pos, after, guard⟩ := o
  simp only at ho
  subst ho
  unfold execOp
  simp only [resolve, hc]
  simp [go_sem, invoke, hv, hrun]
end
section
variable {r : Option Nat} {P : Program} {ops : Array Oper} {Q : Exit → Act → World → Prop} {a : Act} {w w1 : World} {o : Oper} {S : World → Prop}
theorem rCallV (i : Nat) (d : Option Tmp) (c : Operand) (f : FuncId) (lb : Array Value) (xs : List Operand) (ts : Array TypeId) (vals : List Value) (hi : ops[i]? = some o) (hd : o.dst = d) (hw : Region.wanted o (yielded ops a.tmps) = true)
    (ho : o.op = .call { callee := .value c, args := xs.toArray, argTypes := ts }) (hc : a.eval c = .func (.func f) #[] lb) (hv : xs.map a.eval = vals) (hrun : (callFunc f (vals.toArray ++ lb)).run P w = .ok (.enter f (vals.toArray ++ lb)) w)
    (hq : Calls P f (vals.toArray ++ lb) w fun e w' => ∃ v, e = .returned v ∧ From P ops Q (i + 1) (a.put d v) w') : From P ops Q i a w := by
  subst hd
  refine from_step hi ?_
  unfold wpOp
  simp only [hi]
  rw [if_pos hw]
  refine .inl ?_
  unfold Oper.wp
  rw [run_callv c f lb xs ts vals ho hc hv hrun, Oper.upon_enter]
  refine hq.mono ?_
  rintro e w' ⟨v, rfl, h1⟩
  exact h1
theorem ngR (h : Q .ret a w) : Exit.noGoto Q .ret a w := h
end
end Wk
namespace Mur
open Go Go.RowKit Wk Go.Lib
structure Att where
  k : List UInt8
  r : List UInt8
  t : List UInt8
  n : Int
  hk : k.length = 32
  hr : r.length = 32
  ht : t.length = 32
  hn : (Lit.int .i64 n).wf = true
def Att.C (x : Att) : List Value := attC x.k x.r x.n x.t
def Att.raw (x : Att) : List UInt8 := rawL x.k x.r x.n x.t
theorem Att.C_len (x : Att) : x.C.length = 97 := attC_length x.hk x.hr x.ht
theorem Att.eq_iff (x y : Att) : x = y ↔ x.k = y.k ∧ x.r = y.r ∧ x.n = y.n ∧ x.t = y.t := by
  cases x
  cases y
  simp only [Att.mk.injEq]
  constructor
  · rintro ⟨h1, h2, h3, h4⟩
    exact ⟨h1, h2, h4, h3⟩
  · rintro ⟨h1, h2, h3, h4⟩
    exact ⟨h1, h2, h4, h3⟩
theorem Att.raw_inj (x y : Att) : x.raw = y.raw ↔ x = y := (rawL_inj x.hk x.hr y.hk y.hr x.hn y.hn).trans (Att.eq_iff x y).symm
def rowA (L : List Att) : List Value := (L.map Att.C).flatten
theorem rowA_cons (x : Att) (L : List Att) : rowA (x :: L) = x.C ++ rowA L := by simp [rowA]
theorem rowA_one1 (x : Att) : rowA [x] = x.C := by simp [rowA]
theorem rowA_len : ∀ L : List Att, (rowA L).length = L.length * 97
  | [] => rfl
  | x :: L => by rw [rowA_cons, List.length_append, rowA_len L, x.C_len, List.length_cons]; omega
theorem rowA_take (L : List Att) (i : Nat) : rowA (L.take i) = (rowA L).take (i * 97) := by
  induction L generalizing i with
  | nil => simp [rowA]
  | cons x L ih =>
    cases i with
    | zero => simp [rowA]
    | succ i =>
      have h1 : x.C.take ((i + 1) * 97) = x.C := List.take_of_length_le (by rw [x.C_len]; omega)
      rw [List.take_succ_cons, rowA_cons, rowA_cons, ih, List.take_append, x.C_len, show (i + 1) * 97 - 97 = i * 97 by omega, h1]
theorem rowA_drop (L : List Att) (i : Nat) : rowA (L.drop i) = (rowA L).drop (i * 97) := by
  induction L generalizing i with
  | nil => simp [rowA]
  | cons x L ih =>
    cases i with
    | zero => simp
    | succ i =>
      have h1 : x.C.drop ((i + 1) * 97) = [] := List.drop_of_length_le (by rw [x.C_len]; omega)
      rw [List.drop_succ_cons, rowA_cons, ih, List.drop_append, x.C_len, show (i + 1) * 97 - 97 = i * 97 by omega, h1, List.nil_append]
theorem range_cut {w : World} {g off : Nat} {cs : List Value} (h : w.rangeAt g off cs) (k : Nat) (sub : List Value) (e : (cs.drop k).take sub.length = sub) : w.rangeAt g (off + k) sub := fun j v hv => by
  have hj := (List.getElem?_eq_some_iff.1 hv).1
  rw [← e, List.getElem?_take, if_pos (by omega), List.getElem?_drop] at hv
  rw [Nat.add_assoc]
  exact h (k + j) v hv
structure SlA (w : World) (A : Option Addr) (n : Nat) (L : List Att) : Prop where
  len : L.length = n
  sl : Sl w A n 97 (rowA L)
section
variable {w w' : World} {A : Option Addr} {n : Nat} {L : List Att}
theorem SlA.nil (w : World) (A : Option Addr) : SlA w A 0 [] := ⟨rfl, Sl.nil w A 97⟩
theorem SlA.chg {S : List Nat} (h : SlA w A n L) (c : Chg S w w') (ho : ∀ g off, A = some ⟨g, off, none⟩ → g < w.heap.size → Off g S) : SlA w' A n L := ⟨h.len, h.sl.chg c ho⟩
theorem SlA.keep {F : List Nat} (h : SlA w A n L) (c : Keep F w w') (ho : ∀ g off, A = some ⟨g, off, none⟩ → 0 < n → g ∈ F) : SlA w' A n L := ⟨h.len, h.sl.1, fun hn => by
  have hp : 0 < n := by
    rcases Nat.eq_zero_or_pos n with h0 | h0
    · rw [List.eq_nil_of_length_eq_zero (h.len.trans h0)] at hn
      exact absurd rfl hn
    · exact h0
  obtain ⟨g, off, e, hr⟩ := h.sl.2 hn
  exact ⟨g, off, e, c.range hr (ho g off e hp)⟩⟩
theorem rowA_ne (h : 0 < L.length) : rowA L ≠ [] := fun e => by
  have := rowA_len L
  rw [e] at this
  simp at this
  omega
theorem SlA.ex (h : SlA w A n L) (hn : 0 < n) : ∃ g off, A = some ⟨g, off, none⟩ ∧ w.rangeAt g off (rowA L) := h.sl.2 (rowA_ne (by rw [h.len]; exact hn))
theorem SlA.rng {g off : Nat} (h : SlA w (some ⟨g, off, none⟩) n L) : w.rangeAt g off (rowA L) := fun j v hv => by
  have hp : 0 < n := by
    rcases Nat.eq_zero_or_pos n with h0 | h0
    · rw [List.eq_nil_of_length_eq_zero (h.len.trans h0)] at hv
      cases hv
    · exact h0
  obtain ⟨g', off', e, hr⟩ := h.ex hp
  cases e
  exact hr j v hv
theorem SlA.elem {g off : Nat} (h : SlA w (some ⟨g, off, none⟩) n L) {i : Nat} {x : Att} (hx : L[i]? = some x) : w.rangeAt g (off + i * 97) (attC x.k x.r x.n x.t) := by
  refine range_cut h.rng (i * 97) _ ?_
  obtain ⟨hi, rfl⟩ := List.getElem?_eq_some_iff.1 hx
  have e : L.drop i = L[i] :: L.drop (i + 1) := List.drop_eq_getElem_cons hi
  rw [← rowA_drop, e, rowA_cons]
  show (L[i].C ++ _).take (L[i].C).length = _
  rw [List.take_left]
  rfl
theorem SlA.lt {g off : Nat} (h : SlA w (some ⟨g, off, none⟩) n L) (hn : 0 < n) : g < w.heap.size := by
  have hr := h.rng
  have hl := rowA_len L
  have := h.len
  exact World.block_lt_of_cell? w ⟨g, off + 0, none⟩ (hr 0 _ (List.getElem?_eq_getElem (by omega)))
theorem SlA.key {g off : Nat} (h : SlA w (some ⟨g, off, none⟩) n L) {i : Nat} {x : Att} (hx : L[i]? = some x) : w.rangeAt g (off + i * 97) (b8s x.k) := by
  have := range_cut (h.elem hx) 0 (b8s x.k) (by simp [attC])
  simpa using this
theorem slA_box {g : Nat} {T : TypeId} {fr : Nat × Nat} (x : Att) (h : w.heap[g]? = some (.cells (attC x.k x.r x.n x.t).toArray T fr)) : SlA w (some ⟨g, 0, none⟩) 1 [x] :=
  ⟨rfl, by rw [rowA_one1, x.C_len], fun _ => ⟨g, 0, rfl, by rw [rowA_one1]; exact range_row h⟩⟩
theorem SlA.pre {g off : Nat} (h : SlA w (some ⟨g, off, none⟩) n L) {k : Nat} (hk : k ≤ n) : SlA w (some ⟨g, off, none⟩) k (L.take k) := by
  have hl := h.len
  refine ⟨by rw [List.length_take]; omega, by rw [rowA_len, List.length_take]; omega, fun _ => ⟨g, off, rfl, ?_⟩⟩
  have e : (((rowA L).drop 0).take (rowA (L.take k)).length) = rowA (L.take k) := by
    rw [rowA_take, List.drop_zero, List.length_take, rowA_len, hl, Nat.min_eq_left (by omega)]
  have := range_cut h.rng 0 (rowA (L.take k)) e
  simpa using this
end
structure OwnA (w : World) (base e : Nat) (A : Option Addr) (n c : Nat) (L : List Att) : Prop where
  own : w.ownsRow base e 97 (.slice A n c) n (rowA L)
  nc : n ≤ c
  cm : c ≤ maxLen
  nil : A = none → c = 0
  sl : SlA w A n L
  at_ : ∀ g off, A = some ⟨g, off, none⟩ → off = 0 ∧ base ≤ g ∧ g < w.heap.size
  lt : ∀ k, (Value.slice A n c).ownBlock = some k → base ≤ k ∧ k < w.heap.size
section
variable {w w' : World} {base e n c : Nat} {A : Option Addr} {L : List Att}
theorem ownA (h : w.ownsRow base e 97 (.slice A n c) n (rowA L)) : OwnA w base e A n c L := by
  obtain ⟨A2, c2, e3, h1, h2, h4, h5, h6⟩ := own_sl h
  injection e3 with e3 _ e4
  subst e3 e4
  have hl : L.length = n := by
    have := h.1
    rw [rowA_len] at this
    omega
  refine ⟨h, h1, h2, h4, ⟨hl, h5⟩, fun g off eq => ⟨?_, h6 g off eq⟩, World.ownsRow.lt h⟩
  rcases h.2 with ⟨e0, _⟩ | ⟨g', cap, cur, e0, _⟩
  · injection e0 with e1
    rw [eq] at e1
    cases e1
  · injection e0 with e1
    rw [eq] at e1
    injection e1 with e1
    injection e1
theorem ownA_nil (w : World) (base e : Nat) : OwnA w base e none 0 0 [] := ownA ⟨rfl, .inl ⟨rfl, rfl⟩⟩
theorem OwnA.chg {S : List Nat} (h : OwnA w base e A n c L) (ch : Chg S w w') (ho : ∀ g, (Value.slice A n c).ownBlock = some g → base ≤ g → g < w.heap.size → Off g S) : OwnA w' base e A n c L := ownA (own_chg h.own ch ho)
theorem OwnA.ex (h : OwnA w base e A n c L) (hn : 0 < n) : ∃ g, A = some ⟨g, 0, none⟩ ∧ base ≤ g ∧ g < w.heap.size := by
  obtain ⟨g, rfl, _⟩ := own_some h.own hn
  exact ⟨g, rfl, (h.at_ g 0 rfl).2⟩
theorem OwnA.cur (h : OwnA w base e A n c L) : (A = none ∧ n = 0 ∧ c = 0) ∨ ∃ g cur, A = some ⟨g, 0, none⟩ ∧ base ≤ g ∧ w.heap[g]? = some (.cells cur e (0, 0)) ∧ cur.size = c * 97 ∧ cur.toList.take (n * 97) = rowA L := by
  rcases h.own.2 with ⟨e0, h2⟩ | ⟨g, cap, cur, e0, hb, hg, hnc, hcm, hcs, ht⟩
  · injection e0 with e1 e2 e3
    exact .inl ⟨e1, h2, e3⟩
  · injection e0 with e1 e2 e3
    subst e3
    exact .inr ⟨g, cur, e1, hb, hg, hcs, ht⟩
theorem OwnA.of {g : Nat} {cur : Array Value} (hb : base ≤ g) (hg : w.heap[g]? = some (.cells cur e (0, 0))) (hnc : n ≤ c) (hcm : c ≤ maxLen) (hcs : cur.size = c * 97) (ht : cur.toList.take (n * 97) = rowA L) (hl : L.length = n) : OwnA w base e (some ⟨g, 0, none⟩) n c L :=
  ownA ⟨by rw [rowA_len, hl], .inr ⟨g, c, cur, rfl, hb, hg, hnc, hcm, hcs, ht⟩⟩
theorem OwnA.cut (h : OwnA w base e A n c L) {k : Nat} (hk : k ≤ n) : OwnA w base e A k c (L.take k) := by
  rcases h.cur with ⟨rfl, rfl, rfl⟩ | ⟨g, cur, rfl, hb, hg, hcs, ht⟩
  · obtain rfl : k = 0 := by omega
    simpa using ownA_nil w base e
  · have hl := h.sl.len
    refine OwnA.of hb hg (Nat.le_trans hk h.nc) h.cm hcs ?_ (by rw [List.length_take]; omega)
    rw [rowA_take, ← ht, List.take_take, Nat.min_eq_left (by omega)]
end
section
variable {P : Program} {w : World} {a : Act} {o : Oper}
end
end Mur
namespace Mur
open Go Go.RowKit Go.Lib
instance attDec : DecidableEq Att := fun x y => decidable_of_iff (x.raw = y.raw) (Att.raw_inj x y)
def Att.lt (x y : Att) : Prop := compareBytes x.raw y.raw < 0
instance attLt (x y : Att) : Decidable (x.lt y) := by unfold Att.lt; infer_instance
theorem Att.lt_irrefl (x : Att) : ¬ x.lt x := by unfold Att.lt; rw [cmp_self]; omega
theorem Att.lt_trans {x y z : Att} (h : x.lt y) (k : y.lt z) : x.lt z := cmp_trans _ _ _ h k
theorem Att.lt_asymm {x y : Att} (h : x.lt y) : ¬ y.lt x := fun k => x.lt_irrefl (Att.lt_trans h k)
theorem Att.lt_or (x y : Att) : x.lt y ∨ x = y ∨ y.lt x := by
  unfold Att.lt
  have h1 := cmp_flip x.raw y.raw
  have h2 := cmp_zero x.raw y.raw
  rcases Int.lt_trichotomy (compareBytes x.raw y.raw) 0 with h | h | h
  · exact .inl h
  · exact .inr (.inl ((Att.raw_inj x y).1 (h2 h)))
  · exact .inr (.inr (by omega))
def Sorted (L : List Att) : Prop := L.Pairwise Att.lt
theorem Sorted.lt {L : List Att} (h : Sorted L) {i j : Nat} {x y : Att} (hi : L[i]? = some x) (hj : L[j]? = some y) (hij : i < j) : x.lt y := by
  obtain ⟨h1, rfl⟩ := List.getElem?_eq_some_iff.1 hi
  obtain ⟨h2, rfl⟩ := List.getElem?_eq_some_iff.1 hj
  exact List.pairwise_iff_getElem.1 h i j h1 h2 hij
theorem Sorted.take {L : List Att} (h : Sorted L) (k : Nat) : Sorted (L.take k) := List.Pairwise.sublist (List.take_sublist k L) h
theorem Sorted.filter {L : List Att} (h : Sorted L) (p : Att → Bool) : Sorted (L.filter p) := List.Pairwise.sublist List.filter_sublist h
def pos (x : Att) (L : List Att) : Nat := (L.takeWhile fun y => decide (y.lt x)).length
theorem pos_le (x : Att) (L : List Att) : pos x L ≤ L.length := (List.takeWhile_sublist _).length_le
theorem pos_lt {x : Att} : ∀ {L : List Att}, Sorted L → ∀ {i : Nat} {y : Att}, L[i]? = some y → (y.lt x ↔ i < pos x L)
  | [], _, _, _, hy => by simp at hy
  | z :: L, h, i, y, hy => by
    have h1 := List.pairwise_cons.1 h
    unfold pos
    rw [List.takeWhile_cons]
    by_cases hz : z.lt x
    · rw [decide_eq_true hz]
      simp only [if_true, List.length_cons]
      cases i with
      | zero =>
        simp at hy
        subst hy
        simp [hz]
      | succ i =>
        have := pos_lt h1.2 (i := i) (y := y) (x := x) (by simpa using hy)
        unfold pos at this
        rw [this]
        omega
    · rw [decide_eq_false hz]
      simp
      cases i with
      | zero =>
        simp at hy
        subst hy
        exact hz
      | succ i =>
        intro hyx
        have hm : y ∈ L := List.mem_of_getElem? (i := i) (by simpa using hy)
        exact hz (Att.lt_trans (h1.1 y hm) hyx)
def ins (x : Att) (L : List Att) : List Att := L.take (pos x L) ++ x :: L.drop (pos x L)
theorem ins_length (x : Att) (L : List Att) : (ins x L).length = L.length + 1 := by
  have := pos_le x L
  simp only [ins, List.length_append, List.length_cons, List.length_take, List.length_drop]
  omega
theorem mem_ins {x y : Att} {L : List Att} : y ∈ ins x L ↔ y = x ∨ y ∈ L := by
  have h := List.take_append_drop (pos x L) L
  constructor
  · intro hy
    rcases List.mem_append.1 hy with h1 | h1
    · exact .inr (List.mem_of_mem_take h1)
    · rcases List.mem_cons.1 h1 with h1 | h1
      · exact .inl h1
      · exact .inr (List.mem_of_mem_drop h1)
  · rintro (rfl | hy)
    · exact List.mem_append_right _ (List.mem_cons_self)
    · rw [← h] at hy
      rcases List.mem_append.1 hy with h1 | h1
      · exact List.mem_append_left _ h1
      · exact List.mem_append_right _ (List.mem_cons_of_mem _ h1)
theorem ins_sorted {x : Att} {L : List Att} (h : Sorted L) (hx : x ∉ L) : Sorted (ins x L) := by
  have h0 : Sorted (L.take (pos x L) ++ L.drop (pos x L)) := by rw [List.take_append_drop]; exact h
  obtain ⟨h1, h2, h3⟩ := List.pairwise_append.1 h0
  have ha : ∀ a, a ∈ L.take (pos x L) → a.lt x := fun a ha => by
    obtain ⟨i, hi, rfl⟩ := List.getElem_of_mem ha
    rw [List.length_take] at hi
    rw [List.getElem_take]
    exact (pos_lt h (List.getElem?_eq_getElem (by omega))).2 (by omega)
  have hb : ∀ b, b ∈ L.drop (pos x L) → x.lt b := fun b hb => by
    have hm := List.mem_of_mem_drop hb
    obtain ⟨i, hi, rfl⟩ := List.getElem_of_mem hb
    rw [List.length_drop] at hi
    rw [List.getElem_drop] at hm ⊢
    have h4 := pos_lt h (x := x) (List.getElem?_eq_getElem (i := pos x L + i) (by omega))
    rcases x.lt_or (L[pos x L + i]'(by omega)) with h5 | h5 | h5
    · exact h5
    · rw [← h5] at hm
      exact absurd hm hx
    · exact absurd (h4.1 h5) (by omega)
  exact List.pairwise_append.2 ⟨h1, List.pairwise_cons.2 ⟨hb, h2⟩, fun a h4 b h5 => by
    rcases List.mem_cons.1 h5 with rfl | h5
    · exact ha a h4
    · exact h3 a h4 b h5⟩
def addS (x : Att) (L : List Att) : List Att × Int := if may x.n then (if x ∈ L then (L, 7) else if pos x L = 200 then (L, 8) else ((ins x L).take 200, 0)) else (L, 2)
theorem addS_may {x : Att} {L : List Att} (h : ¬ may x.n) : addS x L = (L, 2) := by unfold addS; rw [if_neg h]
theorem addS_twice {x : Att} {L : List Att} (h : may x.n) (k : x ∈ L) : addS x L = (L, 7) := by unfold addS; rw [if_pos h, if_pos k]
theorem addS_full {x : Att} {L : List Att} (h : may x.n) (k : x ∉ L) (f : pos x L = 200) : addS x L = (L, 8) := by unfold addS; rw [if_pos h, if_neg k, if_pos f]
theorem addS_ok {x : Att} {L : List Att} (h : may x.n) (k : x ∉ L) (f : pos x L ≠ 200) : addS x L = ((ins x L).take 200, 0) := by unfold addS; rw [if_pos h, if_neg k, if_neg f]
structure Canon (X : Att → Prop) (L : List Att) : Prop where
  srt : Sorted L
  len : L.length ≤ 200
  sub : ∀ y, y ∈ L → X y ∧ may y.n
  out : ∀ y, X y → may y.n → y ∉ L → L.length = 200 ∧ ∀ z, z ∈ L → z.lt y
theorem Canon.nil : Canon (fun _ => False) [] := ⟨List.Pairwise.nil, by simp, fun y h => by simp at h, fun y h => h.elim⟩
theorem Canon.add {X : Att → Prop} {L : List Att} (h : Canon X L) (x : Att) : Canon (fun y => y = x ∨ X y) (addS x L).1 := by
  have hlen := h.len
  have hple := pos_le x L
  by_cases hm : may x.n
  · by_cases hx : x ∈ L
    · rw [addS_twice hm hx]
      exact ⟨h.srt, h.len, fun y hy => ⟨.inr (h.sub y hy).1, (h.sub y hy).2⟩, fun y hy hy2 hn => by
        rcases hy with rfl | hy
        · exact absurd hx hn
        · exact h.out y hy hy2 hn⟩
    · by_cases hf : pos x L = 200
      · rw [addS_full hm hx hf]
        exact ⟨h.srt, h.len, fun y hy => ⟨.inr (h.sub y hy).1, (h.sub y hy).2⟩, fun y hy hy2 hn => by
          rcases hy with rfl | hy
          · refine ⟨by show L.length = 200; omega, fun z hz => ?_⟩
            obtain ⟨i, hi, rfl⟩ := List.getElem_of_mem hz
            have hi' : i < L.length := hi
            exact (pos_lt h.srt (List.getElem?_eq_getElem hi)).2 (by omega)
          · exact h.out y hy hy2 hn⟩
      · rw [addS_ok hm hx hf]
        have hs := ins_sorted h.srt hx
        have hil := ins_length x L
        refine ⟨hs.take 200, by rw [List.length_take]; omega, fun y hy => ?_, fun y hy hy2 hn => ?_⟩
        · rcases mem_ins.1 (List.mem_of_mem_take hy) with rfl | h1
          · exact ⟨.inl rfl, hm⟩
          · exact ⟨.inr (h.sub y h1).1, (h.sub y h1).2⟩
        · by_cases hi : y ∈ ins x L
          · obtain ⟨j, hj, rfl⟩ := List.getElem_of_mem hi
            have hj2 : ¬ j < 200 := fun q => hn (by
              have : ((ins x L).take 200)[j]? = some (ins x L)[j] := by rw [List.getElem?_take, if_pos q]; exact List.getElem?_eq_getElem hj
              exact List.mem_of_getElem? this)
            refine ⟨by rw [List.length_take]; omega, fun z hz => ?_⟩
            obtain ⟨i, hi2, rfl⟩ := List.getElem_of_mem hz
            rw [List.length_take] at hi2
            rw [List.getElem_take]
            exact hs.lt (List.getElem?_eq_getElem (by omega)) (List.getElem?_eq_getElem hj) (by omega)
          · have hyx : y ≠ x := fun e => hi (mem_ins.2 (.inl e))
            have hyl : y ∉ L := fun e => hi (mem_ins.2 (.inr e))
            obtain ⟨h1, h2⟩ := h.out y (hy.resolve_left hyx) hy2 hyl
            refine ⟨by rw [List.length_take]; omega, fun z hz => ?_⟩
            rcases mem_ins.1 (List.mem_of_mem_take hz) with rfl | h3
            · have hu : L[pos z L]? = some (L[pos z L]'(by omega)) := List.getElem?_eq_getElem (by omega)
              have hum : (L[pos z L]'(by omega)) ∈ L := List.getElem_mem _
              have h4 := pos_lt h.srt hu (x := z)
              rcases z.lt_or (L[pos z L]'(by omega)) with h5 | h5 | h5
              · exact Att.lt_trans h5 (h2 _ hum)
              · rw [← h5] at hum
                exact absurd hum hx
              · exact absurd (h4.1 h5) (by omega)
            · exact h2 z h3
  · rw [addS_may hm]
    exact ⟨h.srt, h.len, fun y hy => ⟨.inr (h.sub y hy).1, (h.sub y hy).2⟩, fun y hy hy2 hn => by
      rcases hy with rfl | hy
      · exact absurd hy2 hm
      · exact h.out y hy hy2 hn⟩
theorem Sorted.nodup {L : List Att} (h : Sorted L) : L.Nodup := List.Pairwise.imp (fun {a b} hab e => by subst e; exact a.lt_irrefl hab) h
theorem Sorted.ext : ∀ {L M : List Att}, Sorted L → Sorted M → (∀ y, y ∈ L ↔ y ∈ M) → L = M
  | [], [], _, _, _ => rfl
  | [], y :: M, _, _, e => by have := (e y).2 (by simp); simp at this
  | x :: L, [], _, _, e => by have := (e x).1 (by simp); simp at this
  | x :: L, y :: M, h, k, e => by
    obtain ⟨h1, h2⟩ := List.pairwise_cons.1 h
    obtain ⟨k1, k2⟩ := List.pairwise_cons.1 k
    have hxy : x = y := by
      rcases List.mem_cons.1 ((e x).1 (by simp)) with h3 | h3
      · exact h3
      · rcases List.mem_cons.1 ((e y).2 (by simp)) with h4 | h4
        · exact h4.symm
        · exact absurd (k1 x h3) (Att.lt_asymm (h1 y h4))
    subst hxy
    rw [Sorted.ext h2 k2 fun z => ?_]
    constructor
    · intro hz
      rcases List.mem_cons.1 ((e z).1 (List.mem_cons_of_mem _ hz)) with rfl | h3
      · exact absurd (h1 z hz) z.lt_irrefl
      · exact h3
    · intro hz
      rcases List.mem_cons.1 ((e z).2 (List.mem_cons_of_mem _ hz)) with rfl | h3
      · exact absurd (k1 z hz) z.lt_irrefl
      · exact h3
theorem nodup_le : ∀ {L M : List Att}, L.Nodup → (∀ y, y ∈ L → y ∈ M) → L.length ≤ M.length
  | [], _, _, _ => by simp
  | x :: L, M, h, hs => by
    obtain ⟨h1, h2⟩ := List.nodup_cons.1 h
    have hx : x ∈ M := hs x (by simp)
    have := nodup_le (M := M.erase x) h2 fun y hy => (List.mem_erase_of_ne (fun (e : y = x) => h1 (by rw [← e]; exact hy))).2 (hs y (List.mem_cons_of_mem _ hy))
    rw [List.length_erase_of_mem hx] at this
    have hp : 0 < M.length := List.length_pos_of_mem hx
    simp only [List.length_cons]
    omega
def nib (k : List UInt8) (i : Nat) : UInt8 := if i % 2 = 0 then k.getD (i / 2) 0 >>> 4 else k.getD (i / 2) 0 &&& 15
def under (p k : List UInt8) : Bool := (List.range p.length).all fun i => nib k i == p.getD i 0
def isPre (p : List UInt8) : Bool := p.all (fun x => decide (x ≤ 15)) && decide (p.length ≤ 8)
def belowL (p : List UInt8) (L : List Att) : List Att := if isPre p then L.filter (fun x => under p x.k) else []
theorem under_iff {p k : List UInt8} : under p k = true ↔ ∀ i, i < p.length → nib k i = p.getD i 0 := by
  unfold under
  rw [List.all_eq_true]
  constructor
  · intro h i hi
    have := h i (List.mem_range.2 hi)
    exact beq_iff_eq.1 this
  · intro h i hi
    exact beq_iff_eq.2 (h i (List.mem_range.1 hi))
theorem under_false {p k : List UInt8} {i : Nat} (hi : i < p.length) (h : nib k i ≠ p.getD i 0) : under p k = false := by
  cases hu : under p k
  · rfl
  · exact absurd (under_iff.1 hu i hi) h
theorem pre_len {p : List UInt8} (h : isPre p = true) : p.length ≤ 8 := by
  unfold isPre at h
  simp only [Bool.and_eq_true, decide_eq_true_eq] at h
  exact h.2
end Mur
namespace Mur
open Go Go.RowKit Wk Go.Lib
section
variable {P : Program} {w : World} {a : Act} {o : Oper}
theorem quo_nat (t ty : TypeId) (x y : Operand) (ho : o.op = .binOp .quo t x y ty) (i n : Nat) (hx : a.eval x = .int .i64 ((i : Nat) : Int)) (hy : a.eval y = .int .i64 ((n : Nat) : Int)) (hn : 0 < n) (hi : i ≤ 9223372036854775807) :
    (execOp a.eval o).run P w = .ok (.value (.int .i64 ((i / n : Nat) : Int))) w := by
  have hne : ¬ n = 0 := by omega
  have h1 : Int.tdiv (i : Int) (n : Int) = ((i / n : Nat) : Int) := by
    rw [Int.tdiv_eq_ediv_of_nonneg (by omega)]
    exact_mod_cast rfl
  have hlt : i / n ≤ i := Nat.div_le_self i n
  have h2 : IntKind.i64.wrap ((i / n : Nat) : Int) = ((i / n : Nat) : Int) := IntWalk.i64_in _ ⟨by have := Int.natCast_nonneg (i / n); omega, by have : ((i / n : Nat) : Int) ≤ (i : Int) := Int.ofNat_le.2 hlt; omega⟩
  unfold execOp
  simp only [ho, hx, hy]
  simp only [eqGuard, binOp]
  simp [Op.intDiv, hne, h1]
  first | done | exact_mod_cast h2
theorem bits_and_u8 (a b : UInt8) : bits .and .u8 ((a.toNat : Nat) : Int) ((b.toNat : Nat) : Int) = (((a &&& b).toNat : Nat) : Int) := by
  show IntKind.u8.wrap ((BitVec.ofInt 8 ((a.toNat : Nat) : Int) &&& BitVec.ofInt 8 ((b.toNat : Nat) : Int)).toNat : Int) = _
  rw [BitVec.ofInt_natCast, BitVec.ofInt_natCast, UInt8.toNat, BitVec.ofNat_toNat, BitVec.setWidth_eq, UInt8.toNat, BitVec.ofNat_toNat, BitVec.setWidth_eq]
  show ((((a &&& b).toNat : Nat) : Int)) % 256 = _
  have := (a &&& b).toNat_lt
  omega
theorem and8_15 (t ty : TypeId) (x y : Operand) (ho : o.op = .binOp .and t x y ty) (b : UInt8) (hx : a.eval x = .int .u8 ((b.toNat : Nat) : Int)) (hy : a.eval y = .int .u8 15) : (execOp a.eval o).run P w = .ok (.value (.int .u8 (((b &&& 15).toNat : Nat) : Int))) w := by
  have key : (binOp .and t (.int .u8 ((b.toNat : Nat) : Int)) (.int .u8 15)).run P w = .ok (.int .u8 (bits .and .u8 ((b.toNat : Nat) : Int) (((15 : UInt8).toNat : Nat) : Int))) w := rfl
  have hg : (eqGuard .and t x y (.int .u8 ((b.toNat : Nat) : Int)) (.int .u8 15)).run P w = .ok () w := rfl
  rw [bits_and_u8] at key
  unfold execOp
  simp only [ho, hx, hy]
  simp only [Sem.run_bind, Sem.run_pure, hg, Result.andThen_ok, key]
end
theorem all15 {l : List UInt8} {n : Nat} (hl : l.length = n) (h : ∀ j, j < n → l.getD j 0 ≤ 15) : (l.all fun x => decide (x ≤ 15)) = true := by
  rw [List.all_eq_true]
  intro x hx
  obtain ⟨j, hj, rfl⟩ := List.getElem_of_mem hx
  have := h j (by omega)
  rw [List.getD_eq_getElem?_getD, List.getElem?_eq_getElem hj] at this
  exact decide_eq_true this
theorem some15 {l : List UInt8} {n i : Nat} (hl : l.length = n) (hi : i < n) (h : 15 < l.getD i 0) : (l.all fun x => decide (x ≤ 15)) = false := by
  cases hq : (l.all fun x => decide (x ≤ 15))
  · rfl
  · rw [List.all_eq_true] at hq
    have h1 : l.getD i 0 = l[i] := by rw [List.getD_eq_getElem?_getD, List.getElem?_eq_getElem (by omega)]; rfl
    have := of_decide_eq_true (hq (l[i]'(by omega)) (List.getElem_mem _))
    rw [h1] at h
    exact absurd h (UInt8.not_lt.2 this)
end Mur
namespace Mur
open Go Go.RowKit Wk
structure SetA (e T lo : Nat) (w : World) (g : Nat) (L : List Att) (A : Option Addr) (n c : Nat) : Prop where
  hp : w.heap[g]? = some (.cells #[.slice A n c] T (0, 0))
  own : OwnA w lo e A n c L
  ne : ∀ q, (Value.slice A n c).ownBlock = some q → q ≠ g
  lo_ : lo ≤ g
  srt : Sorted L
  len : L.length ≤ 200
  ok : ∀ y, y ∈ L → may y.n
def SetF (e T lo : Nat) (w : World) (g : Nat) (L : List Att) (F : List Nat) : Prop := ∃ A n c, SetA e T lo w g L A n c ∧ F = g :: blk (.slice A n c)
section
variable {e T lo : Nat} {w w' : World} {g : Nat} {L : List Att} {F : List Nat} {A : Option Addr} {n c : Nat}
theorem blk_mem {v : Value} {s : Nat} (h : s ∈ blk v) : v.ownBlock = some s := by
  unfold blk at h
  split at h
  · rename_i q hq
    rw [List.mem_singleton.1 h]
    exact hq
  · simp at h
theorem SetF.srt (h : SetF e T lo w g L F) : Sorted L := let ⟨_, _, _, k, _⟩ := h; k.srt
theorem SetF.len (h : SetF e T lo w g L F) : L.length ≤ 200 := let ⟨_, _, _, k, _⟩ := h; k.len
theorem SetF.ok (h : SetF e T lo w g L F) : ∀ y, y ∈ L → may y.n := let ⟨_, _, _, k, _⟩ := h; k.ok
theorem SetF.mem (h : SetF e T lo w g L F) : ∀ s, s ∈ F → lo ≤ s ∧ s < w.heap.size := by
  obtain ⟨A, n, c, k, rfl⟩ := h
  intro s hs
  rcases List.mem_cons.1 hs with rfl | hs
  · exact ⟨k.lo_, (Array.getElem?_eq_some_iff.1 k.hp).1⟩
  · exact k.own.lt s (blk_mem hs)
theorem SetA.chg {S : List Nat} (h : SetA e T lo w g L A n c) (ch : Chg S w w') (ho : ∀ s, s ∈ g :: blk (.slice A n c) → Off s S) : SetA e T lo w' g L A n c :=
  ⟨ch.hp h.hp (ho g (by simp)), h.own.chg ch fun q hq _ _ => ho q (List.mem_cons_of_mem _ (mem_blk hq)), h.ne, h.lo_, h.srt, h.len, h.ok⟩
theorem SetF.chg {S : List Nat} (h : SetF e T lo w g L F) (ch : Chg S w w') (ho : ∀ s, s ∈ F → Off s S) : SetF e T lo w' g L F := by
  obtain ⟨A, n, c, k, rfl⟩ := h
  exact ⟨A, n, c, k.chg ch ho, rfl⟩
theorem SetF.keep (h : SetF e T lo w g L F) (k : Keep F w w') : SetF e T lo w' g L F := by
  obtain ⟨A, n, c, h, rfl⟩ := h
  refine ⟨A, n, c, ⟨k.hp h.hp (by simp), ?_, h.ne, h.lo_, h.srt, h.len, h.ok⟩, rfl⟩
  rcases h.own.cur with ⟨rfl, rfl, rfl⟩ | ⟨q, cur, rfl, hb, hg, hcs, ht⟩
  · have := List.eq_nil_of_length_eq_zero h.own.sl.len
    subst this
    exact ownA_nil _ _ _
  · exact OwnA.of hb (k.hp hg (by simp [blk, Value.ownBlock])) h.own.nc h.own.cm hcs ht h.own.sl.len
end
end Mur
namespace Mur
open Go Go.RowKit Wk
section
variable {w w' : World} {base e n c : Nat} {A : Option Addr} {L : List Att}
theorem OwnA.isCells (h : OwnA w base e A n c L) {s : Nat} (hs : s ∈ blk (.slice A n c)) : ∃ o : Obj, w.heap[s]? = some o ∧ o.isCells = true := by
  have hq := blk_mem hs
  rcases h.cur with ⟨rfl, rfl, rfl⟩ | ⟨g, cur, rfl, hb, hg, hcs, ht⟩
  · cases hq
  · have : g = s := by simpa [Value.ownBlock] using hq
    subst this
    exact ⟨_, hg, rfl⟩
theorem SetA.keep {T lo g : Nat} {F : List Nat} (h : SetA e T lo w g L A n c) (k : Keep F w w') (hF : ∀ s, s ∈ g :: blk (.slice A n c) → s ∈ F) : SetA e T lo w' g L A n c := by
  refine ⟨k.hp h.hp (hF g (by simp)), ?_, h.ne, h.lo_, h.srt, h.len, h.ok⟩
  rcases h.own.cur with ⟨rfl, rfl, rfl⟩ | ⟨q, cur, rfl, hb, hg, hcs, ht⟩
  · have := List.eq_nil_of_length_eq_zero h.own.sl.len
    subst this
    exact ownA_nil _ _ _
  · exact OwnA.of hb (k.hp hg (hF q (by simp [blk, Value.ownBlock]))) h.own.nc h.own.cm hcs ht h.own.sl.len
def pblk (A : Option Addr) (n : Nat) : List Nat := if n = 0 then [] else match A with
  | some a => [a.block]
  | none => []
theorem pblk_mem {q off : Nat} (h : A = some ⟨q, off, none⟩) (hn : 0 < n) : q ∈ pblk A n := by
  subst h
  unfold pblk
  rw [if_neg (by omega)]
  simp
theorem byt_keep {F : List Nat} {l : List UInt8} (h : Byt w A n l) (k : Keep F w w') (hF : ∀ s, s ∈ pblk A n → s ∈ F) : Byt w' A n l := ⟨h.1, fun hn => by
  obtain ⟨g, off, rfl, hc⟩ := h.2 hn
  exact ⟨g, off, rfl, fun j hj => k.cell (hc j hj) (hF g (pblk_mem rfl hn))⟩⟩
end
theorem under_all {p k : List UInt8} {n j : Nat} (hl : p.length = n) (hj : n ≤ j) (h : ∀ i, i < j → nib k i = p.getD i 0) : under p k = true := under_iff.2 fun i hi => h i (by omega)
theorem nib_step {p k : List UInt8} {j : Nat} (h : ∀ i, i < j → nib k i = p.getD i 0) (e : nib k j = p.getD j 0) : ∀ i, i < j + 1 → nib k i = p.getD i 0 := fun i hi => by
  rcases Nat.lt_or_ge i j with h1 | h1
  · exact h i h1
  · obtain rfl : i = j := by omega
    exact e
theorem u8_cast_inj {a b : UInt8} (h : ((a.toNat : Nat) : Int) = ((b.toNat : Nat) : Int)) : a = b := UInt8.toNat_inj.1 (by omega)
def rowL (M : List Att) : List UInt8 := 32 :: (M.map Att.raw).flatten
end Mur
namespace Mur
open Go Go.RowKit Go.Lib
theorem u8_shr4 (a : UInt8) : (a >>> 4).toNat = a.toNat / 16 := by
  rw [UInt8.toNat_shiftRight]
  show a.toNat >>> 4 = _
  rw [Nat.shiftRight_eq_div_pow]
theorem u8_and15 (a : UInt8) : (a &&& 15).toNat = a.toNat % 16 := by
  rw [UInt8.toNat_and]
  exact Nat.and_two_pow_sub_one_eq_mod a.toNat 4
section
variable {P : Program} {w w' : World} {a : Act} {o : Oper}
end
end Mur
