/- attest: what may be, eight bytes, the tag, Make, Right. -/
import Derived.Test.YtljfjjofhclhiaaDoorAtP
namespace Go.Proofs.YtljfjjofhclhiaaDoor
open Go.RowKit
open Mur (b8s Byt Own8 Seg Segs flat cutA attC)
set_option maxRecDepth 100000
set_option maxHeartbeats 4000000
theorem may_any (k r t : List UInt8) (n : Int) (hk : k.length = 32) (hr : r.length = 32) (_ht : t.length = 32) (w : World) : Calls Tryd.prog 33 #[.agg (attC k r n t).toArray] w fun e w' => e = .returned (.bool (decide (Mur.may n))) ∧ Wk.Chg [] w w' := by
  refine calls_of_wp Tryd.func33 rfl ?_
  refine wp_seq ?_
  refine Wk.reg ?_
  refine Wk.rEx 0 (some 1) _ rfl rfl (by kernel_rfl) (Wk.new_ex (.pointer (some ⟨w.heap.size, 0, none⟩)) ((Mur.attC k r n t).toArray) 36 (by kernel_rfl)) ?_
  rintro _ W1 ⟨rfl, hb1, ch1, sz1⟩
  have zz1 := ch1.size
  refine Wk.rPure 1 (some 2) (.bool false) rfl rfl (by kernel_rfl) (by kernel_rfl) ?_
  refine Wk.rEnd 2 rfl ?_
  refine Wk.nxt ?_
  refine wp_seq ?_
  refine Wk.reg ?_
  refine Wk.rPure 0 (some 3) (.pointer (some ⟨w.heap.size, 64, none⟩)) rfl rfl (by kernel_rfl) (by kernel_rfl) ?_
  refine Wk.rPure 1 (some 4) (.int .i64 n) rfl rfl (by kernel_rfl) (Wk.load1 3 (.tmp 3) rfl (by kernel_rfl) ⟨w.heap.size, 64, none⟩ (by kernel_rfl) (.int .i64 n) (Mur.att_len hk hr hb1)) ?_
  by_cases hx1 : n ≥ (1 : Int)
  · refine Wk.rPure 2 (some 5) (.bool true) rfl rfl (by kernel_rfl) (Wk.boolT (b := decide (n ≥ (1 : Int))) (decide_eq_true (by first | exact hx1 | omega)) (by kernel_rfl)) ?_
    refine Wk.rPure 3 (some 6) (.bool true) rfl rfl (by kernel_rfl) (by kernel_rfl) ?_
    refine Wk.rPure 4 (some 7) (.pointer (some ⟨w.heap.size, 64, none⟩)) rfl rfl (by kernel_rfl) (by kernel_rfl) ?_
    refine Wk.rPure 5 (some 8) (.int .i64 n) rfl rfl (by kernel_rfl) (Wk.load1 3 (.tmp 7) rfl (by kernel_rfl) ⟨w.heap.size, 64, none⟩ (by kernel_rfl) (.int .i64 n) (Mur.att_len hk hr hb1)) ?_
    by_cases hx2 : n ≤ (5000 : Int)
    · refine Wk.rPure 6 (some 9) (.bool true) rfl rfl (by kernel_rfl) (Wk.boolT (b := decide (n ≤ (5000 : Int))) (decide_eq_true (by first | exact hx2 | omega)) (by kernel_rfl)) ?_
      refine Wk.rPure 7 (some 10) (.bool true) rfl rfl (by kernel_rfl) (by kernel_rfl) ?_
      refine Wk.rPure 8 (some 2) (.bool true) rfl rfl (by kernel_rfl) (by kernel_rfl) ?_
      refine Wk.rEnd 9 rfl ?_
      refine Wk.nxt ?_
      refine wp_ret ?_
      have kk1 : Wk.Chg [] w W1 := Wk.Chg.step ((Wk.Chg.refl _).more (by simp)) ch1 trivial
      refine Wk.ret (.bool true) rfl (by kernel_rfl) ?_
      exact ⟨by rw [decide_eq_true (show Mur.may n from by unfold Mur.may; omega)], kk1⟩
    · refine Wk.rPure 6 (some 9) (.bool false) rfl rfl (by kernel_rfl) (Wk.boolF (b := decide (n ≤ (5000 : Int))) (decide_eq_false (by first | exact hx2 | omega)) (by kernel_rfl)) ?_
      refine Wk.rPure 7 (some 10) (.bool false) rfl rfl (by kernel_rfl) (by kernel_rfl) ?_
      refine Wk.rPure 8 (some 2) (.bool false) rfl rfl (by kernel_rfl) (by kernel_rfl) ?_
      refine Wk.rEnd 9 rfl ?_
      refine Wk.nxt ?_
      refine wp_ret ?_
      have kk2 : Wk.Chg [] w W1 := Wk.Chg.step ((Wk.Chg.refl _).more (by simp)) ch1 trivial
      refine Wk.ret (.bool false) rfl (by kernel_rfl) ?_
      exact ⟨by rw [decide_eq_false (show ¬ Mur.may n from by unfold Mur.may; omega)], kk2⟩
  · refine Wk.rPure 2 (some 5) (.bool false) rfl rfl (by kernel_rfl) (Wk.boolF (b := decide (n ≥ (1 : Int))) (decide_eq_false (by first | exact hx1 | omega)) (by kernel_rfl)) ?_
    refine Wk.rPure 3 (some 6) (.bool false) rfl rfl (by kernel_rfl) (by kernel_rfl) ?_
    refine Wk.rPass 4 (some 7) rfl rfl (by kernel_rfl) ?_
    refine Wk.rPass 5 (some 8) rfl rfl (by kernel_rfl) ?_
    refine Wk.rPass 6 (some 9) rfl rfl (by kernel_rfl) ?_
    refine Wk.rPure 7 (some 10) (.bool false) rfl rfl (by kernel_rfl) (by kernel_rfl) ?_
    refine Wk.rPure 8 (some 2) (.bool false) rfl rfl (by kernel_rfl) (by kernel_rfl) ?_
    refine Wk.rEnd 9 rfl ?_
    refine Wk.nxt ?_
    refine wp_ret ?_
    have kk3 : Wk.Chg [] w W1 := Wk.Chg.step ((Wk.Chg.refl _).more (by simp)) ch1 trivial
    refine Wk.ret (.bool false) rfl (by kernel_rfl) ?_
    exact ⟨by rw [decide_eq_false (show ¬ Mur.may n from by unfold Mur.may; omega)], kk3⟩
theorem Rmay_any (k r t : List UInt8) (n : Int) (hk : k.length = 32) (hr : r.length = 32) (_ht : t.length = 32) (w : World) : Calls Tryd.prog 21 #[.agg (attC k r n t).toArray] w fun e w' => e = .returned (.bool (decide (Mur.may n))) ∧ Wk.Chg [] w w' := by
  refine calls_of_wp Tryd.func21 rfl ?_
  refine wp_seq ?_
  refine Wk.reg ?_
  refine Wk.rEx 0 (some 1) _ rfl rfl (by kernel_rfl) (Wk.new_ex (.pointer (some ⟨w.heap.size, 0, none⟩)) ((Mur.attC k r n t).toArray) 36 (by kernel_rfl)) ?_
  rintro _ W1 ⟨rfl, hb1, ch1, sz1⟩
  have zz1 := ch1.size
  refine Wk.rPure 1 (some 2) (.bool false) rfl rfl (by kernel_rfl) (by kernel_rfl) ?_
  refine Wk.rEnd 2 rfl ?_
  refine Wk.nxt ?_
  refine wp_seq ?_
  refine Wk.reg ?_
  refine Wk.rPure 0 (some 3) (.pointer (some ⟨w.heap.size, 64, none⟩)) rfl rfl (by kernel_rfl) (by kernel_rfl) ?_
  refine Wk.rPure 1 (some 4) (.int .i64 n) rfl rfl (by kernel_rfl) (Wk.load1 3 (.tmp 3) rfl (by kernel_rfl) ⟨w.heap.size, 64, none⟩ (by kernel_rfl) (.int .i64 n) (Mur.att_len hk hr hb1)) ?_
  by_cases hx1 : n ≥ (1 : Int)
  · refine Wk.rPure 2 (some 5) (.bool true) rfl rfl (by kernel_rfl) (Wk.boolT (b := decide (n ≥ (1 : Int))) (decide_eq_true (by first | exact hx1 | omega)) (by kernel_rfl)) ?_
    refine Wk.rPure 3 (some 6) (.bool true) rfl rfl (by kernel_rfl) (by kernel_rfl) ?_
    refine Wk.rPure 4 (some 7) (.pointer (some ⟨w.heap.size, 64, none⟩)) rfl rfl (by kernel_rfl) (by kernel_rfl) ?_
    refine Wk.rPure 5 (some 8) (.int .i64 n) rfl rfl (by kernel_rfl) (Wk.load1 3 (.tmp 7) rfl (by kernel_rfl) ⟨w.heap.size, 64, none⟩ (by kernel_rfl) (.int .i64 n) (Mur.att_len hk hr hb1)) ?_
    by_cases hx2 : n ≤ (5000 : Int)
    · refine Wk.rPure 6 (some 9) (.bool true) rfl rfl (by kernel_rfl) (Wk.boolT (b := decide (n ≤ (5000 : Int))) (decide_eq_true (by first | exact hx2 | omega)) (by kernel_rfl)) ?_
      refine Wk.rPure 7 (some 10) (.bool true) rfl rfl (by kernel_rfl) (by kernel_rfl) ?_
      refine Wk.rPure 8 (some 2) (.bool true) rfl rfl (by kernel_rfl) (by kernel_rfl) ?_
      refine Wk.rEnd 9 rfl ?_
      refine Wk.nxt ?_
      refine wp_ret ?_
      have kk1 : Wk.Chg [] w W1 := Wk.Chg.step ((Wk.Chg.refl _).more (by simp)) ch1 trivial
      refine Wk.ret (.bool true) rfl (by kernel_rfl) ?_
      exact ⟨by rw [decide_eq_true (show Mur.may n from by unfold Mur.may; omega)], kk1⟩
    · refine Wk.rPure 6 (some 9) (.bool false) rfl rfl (by kernel_rfl) (Wk.boolF (b := decide (n ≤ (5000 : Int))) (decide_eq_false (by first | exact hx2 | omega)) (by kernel_rfl)) ?_
      refine Wk.rPure 7 (some 10) (.bool false) rfl rfl (by kernel_rfl) (by kernel_rfl) ?_
      refine Wk.rPure 8 (some 2) (.bool false) rfl rfl (by kernel_rfl) (by kernel_rfl) ?_
      refine Wk.rEnd 9 rfl ?_
      refine Wk.nxt ?_
      refine wp_ret ?_
      have kk2 : Wk.Chg [] w W1 := Wk.Chg.step ((Wk.Chg.refl _).more (by simp)) ch1 trivial
      refine Wk.ret (.bool false) rfl (by kernel_rfl) ?_
      exact ⟨by rw [decide_eq_false (show ¬ Mur.may n from by unfold Mur.may; omega)], kk2⟩
  · refine Wk.rPure 2 (some 5) (.bool false) rfl rfl (by kernel_rfl) (Wk.boolF (b := decide (n ≥ (1 : Int))) (decide_eq_false (by first | exact hx1 | omega)) (by kernel_rfl)) ?_
    refine Wk.rPure 3 (some 6) (.bool false) rfl rfl (by kernel_rfl) (by kernel_rfl) ?_
    refine Wk.rPass 4 (some 7) rfl rfl (by kernel_rfl) ?_
    refine Wk.rPass 5 (some 8) rfl rfl (by kernel_rfl) ?_
    refine Wk.rPass 6 (some 9) rfl rfl (by kernel_rfl) ?_
    refine Wk.rPure 7 (some 10) (.bool false) rfl rfl (by kernel_rfl) (by kernel_rfl) ?_
    refine Wk.rPure 8 (some 2) (.bool false) rfl rfl (by kernel_rfl) (by kernel_rfl) ?_
    refine Wk.rEnd 9 rfl ?_
    refine Wk.nxt ?_
    refine wp_ret ?_
    have kk3 : Wk.Chg [] w W1 := Wk.Chg.step ((Wk.Chg.refl _).more (by simp)) ch1 trivial
    refine Wk.ret (.bool false) rfl (by kernel_rfl) ?_
    exact ⟨by rw [decide_eq_false (show ¬ Mur.may n from by unfold Mur.may; omega)], kk3⟩
theorem eight_any (n : Int) (w : World) : Calls Tryd.prog 43 #[.int .i64 n] w fun e w' => ∃ E, Hid (E = Mur.e8 (Mur.u64n n)) ∧ E.length = 8 ∧ e = .returned (.agg (b8s E).toArray) ∧ Wk.Chg [] w w' := by
  refine calls_of_wp Tryd.func43 rfl ?_
  refine wp_seq ?_
  refine Wk.reg ?_
  refine Wk.rEx 0 (some 2) _ rfl rfl (by kernel_rfl) (Wk.new_ex (.pointer (some ⟨w.heap.size, 0, none⟩)) #[.int .u8 0, .int .u8 0, .int .u8 0, .int .u8 0, .int .u8 0, .int .u8 0, .int .u8 0, .int .u8 0] 75 (by kernel_rfl)) ?_
  rintro _ W1 ⟨rfl, hb1, ch1, sz1⟩
  have zz1 := ch1.size
  refine Wk.rEnd 1 rfl ?_
  refine Wk.nxt ?_
  refine wp_seq ?_
  refine wp_seq ?_
  refine Wk.reg ?_
  refine Wk.rPure 0 (some 4) (.int .i64 0) rfl rfl (by kernel_rfl) (by kernel_rfl) ?_
  refine Wk.rEnd 1 rfl ?_
  refine Wk.nxt ?_
  refine wp_block ?_
  refine Wk.loopN 9 ?_
  refine Wk.rdS ?_
  refine wp_seq ?_
  refine Wk.reg ?_
  refine Wk.rPure 0 (some 5) (.bool true) rfl rfl (by kernel_rfl) (Wk.boolT (b := decide ((0 : Int) < (8 : Int))) (decide_eq_true (by decide)) (by kernel_rfl)) ?_
  refine Wk.rEnd 1 rfl ?_
  refine Wk.nxt ?_
  refine wp_seq ?_
  refine wp_cond_true (by kernel_rfl) ?_
  refine wp_skip ?_
  refine Wk.nxt ?_
  refine wp_seq ?_
  refine wp_block ?_
  refine wp_seq ?_
  refine Wk.reg ?_
  refine Wk.rPure 0 (some 6) (.int .i64 0) rfl rfl (by kernel_rfl) (by kernel_rfl) ?_
  refine Wk.rPure 1 (some 3) (.int .i64 0) rfl rfl (by kernel_rfl) (by kernel_rfl) ?_
  refine Wk.rEnd 2 rfl ?_
  refine Wk.nxt ?_
  refine Wk.reg ?_
  refine Wk.rPure 0 (some 7) (.int .i64 0) rfl rfl (by kernel_rfl) (by kernel_rfl) ?_
  refine Wk.rPure 1 (some 8) (.int .i64 n) rfl rfl (by kernel_rfl) (by kernel_rfl) ?_
  refine Wk.rPure 2 (some 9) (.int .u64 ((Mur.u64n n : Nat) : Int)) rfl rfl (by kernel_rfl) (Mur.conv_u64n 3 32 (.tmp 8) rfl (by kernel_rfl) Tryd.underlying32 .i64 n (by kernel_rfl)) ?_
  refine Wk.rPure 3 (some 10) (.int .i64 0) rfl rfl (by kernel_rfl) (by kernel_rfl) ?_
  refine Wk.rPure 4 (some 11) (.int .i64 0) rfl rfl (by kernel_rfl) (Wk.int64 (n := 8 * 0) (z := 0) (by omega) (by omega) (by omega) (by kernel_rfl)) ?_
  refine Wk.rPure 5 (some 12) (.int .i64 56) rfl rfl (by kernel_rfl) (Wk.int64 (n := 56 - 0) (z := 56) (by omega) (by omega) (by omega) (by kernel_rfl)) ?_
  refine Wk.rPure 6 (some 13) (.int .u64 (((Mur.u64n n) / 72057594037927936 : Nat) : Int)) rfl rfl (by kernel_rfl) (Mur.shr64 32 3 (.tmp 9) (.tmp 12) rfl (Mur.u64n n) 56 .i64 (by kernel_rfl) (by kernel_rfl) (by omega) 72057594037927936 rfl) ?_
  refine Wk.rPure 7 (some 14) (.int .u8 (((Mur.u64n n) / 72057594037927936 % 256 : Nat) : Int)) rfl rfl (by kernel_rfl) (Mur.conv_u8 32 5 (.tmp 13) rfl (by kernel_rfl) Tryd.underlying5 .u64 ((Mur.u64n n) / 72057594037927936) (by kernel_rfl)) ?_
  refine Wk.rPure 8 (some 15) (.pointer (some ⟨w.heap.size, 0, none⟩)) rfl rfl (by kernel_rfl) (Wk.index_arr 75 5 (.tmp 2) (.tmp 7) rfl 8 Tryd.underlying75 1 (by kernel_rfl) w.heap.size 0 0 .i64 (by kernel_rfl) (by kernel_rfl) (by decide)) ?_
  refine Wk.rExS 9 none _ rfl rfl (by kernel_rfl) (Wk.store1 5 (.tmp 15) (.tmp 14) rfl (by kernel_rfl) w.heap.size 0 (by kernel_rfl) (.int .u8 (((Mur.u64n n) / 72057594037927936 % 256 : Nat) : Int)) (by kernel_rfl) rfl 75 #[.int .u8 0, .int .u8 0, .int .u8 0, .int .u8 0, .int .u8 0, .int .u8 0, .int .u8 0, .int .u8 0] hb1 (by simp)) ?_
  rintro W2 ⟨hb2, ch2⟩
  replace hb2 : W2.heap[w.heap.size]? = some (.cells #[.int .u8 (((Mur.u64n n) / 72057594037927936 % 256 : Nat) : Int), .int .u8 0, .int .u8 0, .int .u8 0, .int .u8 0, .int .u8 0, .int .u8 0, .int .u8 0] 75 (0, 0)) := hb2
  have zz2 := ch2.size
  refine Wk.rEnd 10 rfl ?_
  refine Wk.inN ?_
  refine Wk.nxt ?_
  refine Wk.reg ?_
  refine Wk.rPure 0 (some 16) (.int .i64 1) rfl rfl (by kernel_rfl) (Wk.int64 (n := 0 + 1) (z := 1) (by omega) (by omega) (by omega) (by kernel_rfl)) ?_
  refine Wk.rPure 1 (some 4) (.int .i64 1) rfl rfl (by kernel_rfl) (by kernel_rfl) ?_
  refine Wk.rEnd 2 rfl ?_
  refine Wk.nxt ?_
  refine Wk.rdS ?_
  refine wp_seq ?_
  refine Wk.reg ?_
  refine Wk.rPure 0 (some 5) (.bool true) rfl rfl (by kernel_rfl) (Wk.boolT (b := decide ((1 : Int) < (8 : Int))) (decide_eq_true (by decide)) (by kernel_rfl)) ?_
  refine Wk.rEnd 1 rfl ?_
  refine Wk.nxt ?_
  refine wp_seq ?_
  refine wp_cond_true (by kernel_rfl) ?_
  refine wp_skip ?_
  refine Wk.nxt ?_
  refine wp_seq ?_
  refine wp_block ?_
  refine wp_seq ?_
  refine Wk.reg ?_
  refine Wk.rPure 0 (some 6) (.int .i64 1) rfl rfl (by kernel_rfl) (by kernel_rfl) ?_
  refine Wk.rPure 1 (some 3) (.int .i64 1) rfl rfl (by kernel_rfl) (by kernel_rfl) ?_
  refine Wk.rEnd 2 rfl ?_
  refine Wk.nxt ?_
  refine Wk.reg ?_
  refine Wk.rPure 0 (some 7) (.int .i64 1) rfl rfl (by kernel_rfl) (by kernel_rfl) ?_
  refine Wk.rPure 1 (some 8) (.int .i64 n) rfl rfl (by kernel_rfl) (by kernel_rfl) ?_
  refine Wk.rPure 2 (some 9) (.int .u64 ((Mur.u64n n : Nat) : Int)) rfl rfl (by kernel_rfl) (Mur.conv_u64n 3 32 (.tmp 8) rfl (by kernel_rfl) Tryd.underlying32 .i64 n (by kernel_rfl)) ?_
  refine Wk.rPure 3 (some 10) (.int .i64 1) rfl rfl (by kernel_rfl) (by kernel_rfl) ?_
  refine Wk.rPure 4 (some 11) (.int .i64 8) rfl rfl (by kernel_rfl) (Wk.int64 (n := 8 * 1) (z := 8) (by omega) (by omega) (by omega) (by kernel_rfl)) ?_
  refine Wk.rPure 5 (some 12) (.int .i64 48) rfl rfl (by kernel_rfl) (Wk.int64 (n := 56 - 8) (z := 48) (by omega) (by omega) (by omega) (by kernel_rfl)) ?_
  refine Wk.rPure 6 (some 13) (.int .u64 (((Mur.u64n n) / 281474976710656 : Nat) : Int)) rfl rfl (by kernel_rfl) (Mur.shr64 32 3 (.tmp 9) (.tmp 12) rfl (Mur.u64n n) 48 .i64 (by kernel_rfl) (by kernel_rfl) (by omega) 281474976710656 rfl) ?_
  refine Wk.rPure 7 (some 14) (.int .u8 (((Mur.u64n n) / 281474976710656 % 256 : Nat) : Int)) rfl rfl (by kernel_rfl) (Mur.conv_u8 32 5 (.tmp 13) rfl (by kernel_rfl) Tryd.underlying5 .u64 ((Mur.u64n n) / 281474976710656) (by kernel_rfl)) ?_
  refine Wk.rPure 8 (some 15) (.pointer (some ⟨w.heap.size, 1, none⟩)) rfl rfl (by kernel_rfl) (Wk.index_arr 75 5 (.tmp 2) (.tmp 7) rfl 8 Tryd.underlying75 1 (by kernel_rfl) w.heap.size 0 1 .i64 (by kernel_rfl) (by kernel_rfl) (by decide)) ?_
  refine Wk.rExS 9 none _ rfl rfl (by kernel_rfl) (Wk.store1 5 (.tmp 15) (.tmp 14) rfl (by kernel_rfl) w.heap.size 1 (by kernel_rfl) (.int .u8 (((Mur.u64n n) / 281474976710656 % 256 : Nat) : Int)) (by kernel_rfl) rfl 75 #[.int .u8 (((Mur.u64n n) / 72057594037927936 % 256 : Nat) : Int), .int .u8 0, .int .u8 0, .int .u8 0, .int .u8 0, .int .u8 0, .int .u8 0, .int .u8 0] hb2 (by simp)) ?_
  rintro W3 ⟨hb3, ch3⟩
  replace hb3 : W3.heap[w.heap.size]? = some (.cells #[.int .u8 (((Mur.u64n n) / 72057594037927936 % 256 : Nat) : Int), .int .u8 (((Mur.u64n n) / 281474976710656 % 256 : Nat) : Int), .int .u8 0, .int .u8 0, .int .u8 0, .int .u8 0, .int .u8 0, .int .u8 0] 75 (0, 0)) := hb3
  have zz3 := ch3.size
  refine Wk.rEnd 10 rfl ?_
  refine Wk.inN ?_
  refine Wk.nxt ?_
  refine Wk.reg ?_
  refine Wk.rPure 0 (some 16) (.int .i64 2) rfl rfl (by kernel_rfl) (Wk.int64 (n := 1 + 1) (z := 2) (by omega) (by omega) (by omega) (by kernel_rfl)) ?_
  refine Wk.rPure 1 (some 4) (.int .i64 2) rfl rfl (by kernel_rfl) (by kernel_rfl) ?_
  refine Wk.rEnd 2 rfl ?_
  refine Wk.nxt ?_
  refine Wk.rdS ?_
  refine wp_seq ?_
  refine Wk.reg ?_
  refine Wk.rPure 0 (some 5) (.bool true) rfl rfl (by kernel_rfl) (Wk.boolT (b := decide ((2 : Int) < (8 : Int))) (decide_eq_true (by decide)) (by kernel_rfl)) ?_
  refine Wk.rEnd 1 rfl ?_
  refine Wk.nxt ?_
  refine wp_seq ?_
  refine wp_cond_true (by kernel_rfl) ?_
  refine wp_skip ?_
  refine Wk.nxt ?_
  refine wp_seq ?_
  refine wp_block ?_
  refine wp_seq ?_
  refine Wk.reg ?_
  refine Wk.rPure 0 (some 6) (.int .i64 2) rfl rfl (by kernel_rfl) (by kernel_rfl) ?_
  refine Wk.rPure 1 (some 3) (.int .i64 2) rfl rfl (by kernel_rfl) (by kernel_rfl) ?_
  refine Wk.rEnd 2 rfl ?_
  refine Wk.nxt ?_
  refine Wk.reg ?_
  refine Wk.rPure 0 (some 7) (.int .i64 2) rfl rfl (by kernel_rfl) (by kernel_rfl) ?_
  refine Wk.rPure 1 (some 8) (.int .i64 n) rfl rfl (by kernel_rfl) (by kernel_rfl) ?_
  refine Wk.rPure 2 (some 9) (.int .u64 ((Mur.u64n n : Nat) : Int)) rfl rfl (by kernel_rfl) (Mur.conv_u64n 3 32 (.tmp 8) rfl (by kernel_rfl) Tryd.underlying32 .i64 n (by kernel_rfl)) ?_
  refine Wk.rPure 3 (some 10) (.int .i64 2) rfl rfl (by kernel_rfl) (by kernel_rfl) ?_
  refine Wk.rPure 4 (some 11) (.int .i64 16) rfl rfl (by kernel_rfl) (Wk.int64 (n := 8 * 2) (z := 16) (by omega) (by omega) (by omega) (by kernel_rfl)) ?_
  refine Wk.rPure 5 (some 12) (.int .i64 40) rfl rfl (by kernel_rfl) (Wk.int64 (n := 56 - 16) (z := 40) (by omega) (by omega) (by omega) (by kernel_rfl)) ?_
  refine Wk.rPure 6 (some 13) (.int .u64 (((Mur.u64n n) / 1099511627776 : Nat) : Int)) rfl rfl (by kernel_rfl) (Mur.shr64 32 3 (.tmp 9) (.tmp 12) rfl (Mur.u64n n) 40 .i64 (by kernel_rfl) (by kernel_rfl) (by omega) 1099511627776 rfl) ?_
  refine Wk.rPure 7 (some 14) (.int .u8 (((Mur.u64n n) / 1099511627776 % 256 : Nat) : Int)) rfl rfl (by kernel_rfl) (Mur.conv_u8 32 5 (.tmp 13) rfl (by kernel_rfl) Tryd.underlying5 .u64 ((Mur.u64n n) / 1099511627776) (by kernel_rfl)) ?_
  refine Wk.rPure 8 (some 15) (.pointer (some ⟨w.heap.size, 2, none⟩)) rfl rfl (by kernel_rfl) (Wk.index_arr 75 5 (.tmp 2) (.tmp 7) rfl 8 Tryd.underlying75 1 (by kernel_rfl) w.heap.size 0 2 .i64 (by kernel_rfl) (by kernel_rfl) (by decide)) ?_
  refine Wk.rExS 9 none _ rfl rfl (by kernel_rfl) (Wk.store1 5 (.tmp 15) (.tmp 14) rfl (by kernel_rfl) w.heap.size 2 (by kernel_rfl) (.int .u8 (((Mur.u64n n) / 1099511627776 % 256 : Nat) : Int)) (by kernel_rfl) rfl 75 #[.int .u8 (((Mur.u64n n) / 72057594037927936 % 256 : Nat) : Int), .int .u8 (((Mur.u64n n) / 281474976710656 % 256 : Nat) : Int), .int .u8 0, .int .u8 0, .int .u8 0, .int .u8 0, .int .u8 0, .int .u8 0] hb3 (by simp)) ?_
  rintro W4 ⟨hb4, ch4⟩
  replace hb4 : W4.heap[w.heap.size]? = some (.cells #[.int .u8 (((Mur.u64n n) / 72057594037927936 % 256 : Nat) : Int), .int .u8 (((Mur.u64n n) / 281474976710656 % 256 : Nat) : Int), .int .u8 (((Mur.u64n n) / 1099511627776 % 256 : Nat) : Int), .int .u8 0, .int .u8 0, .int .u8 0, .int .u8 0, .int .u8 0] 75 (0, 0)) := hb4
  have zz4 := ch4.size
  refine Wk.rEnd 10 rfl ?_
  refine Wk.inN ?_
  refine Wk.nxt ?_
  refine Wk.reg ?_
  refine Wk.rPure 0 (some 16) (.int .i64 3) rfl rfl (by kernel_rfl) (Wk.int64 (n := 2 + 1) (z := 3) (by omega) (by omega) (by omega) (by kernel_rfl)) ?_
  refine Wk.rPure 1 (some 4) (.int .i64 3) rfl rfl (by kernel_rfl) (by kernel_rfl) ?_
  refine Wk.rEnd 2 rfl ?_
  refine Wk.nxt ?_
  refine Wk.rdS ?_
  refine wp_seq ?_
  refine Wk.reg ?_
  refine Wk.rPure 0 (some 5) (.bool true) rfl rfl (by kernel_rfl) (Wk.boolT (b := decide ((3 : Int) < (8 : Int))) (decide_eq_true (by decide)) (by kernel_rfl)) ?_
  refine Wk.rEnd 1 rfl ?_
  refine Wk.nxt ?_
  refine wp_seq ?_
  refine wp_cond_true (by kernel_rfl) ?_
  refine wp_skip ?_
  refine Wk.nxt ?_
  refine wp_seq ?_
  refine wp_block ?_
  refine wp_seq ?_
  refine Wk.reg ?_
  refine Wk.rPure 0 (some 6) (.int .i64 3) rfl rfl (by kernel_rfl) (by kernel_rfl) ?_
  refine Wk.rPure 1 (some 3) (.int .i64 3) rfl rfl (by kernel_rfl) (by kernel_rfl) ?_
  refine Wk.rEnd 2 rfl ?_
  refine Wk.nxt ?_
  refine Wk.reg ?_
  refine Wk.rPure 0 (some 7) (.int .i64 3) rfl rfl (by kernel_rfl) (by kernel_rfl) ?_
  refine Wk.rPure 1 (some 8) (.int .i64 n) rfl rfl (by kernel_rfl) (by kernel_rfl) ?_
  refine Wk.rPure 2 (some 9) (.int .u64 ((Mur.u64n n : Nat) : Int)) rfl rfl (by kernel_rfl) (Mur.conv_u64n 3 32 (.tmp 8) rfl (by kernel_rfl) Tryd.underlying32 .i64 n (by kernel_rfl)) ?_
  refine Wk.rPure 3 (some 10) (.int .i64 3) rfl rfl (by kernel_rfl) (by kernel_rfl) ?_
  refine Wk.rPure 4 (some 11) (.int .i64 24) rfl rfl (by kernel_rfl) (Wk.int64 (n := 8 * 3) (z := 24) (by omega) (by omega) (by omega) (by kernel_rfl)) ?_
  refine Wk.rPure 5 (some 12) (.int .i64 32) rfl rfl (by kernel_rfl) (Wk.int64 (n := 56 - 24) (z := 32) (by omega) (by omega) (by omega) (by kernel_rfl)) ?_
  refine Wk.rPure 6 (some 13) (.int .u64 (((Mur.u64n n) / 4294967296 : Nat) : Int)) rfl rfl (by kernel_rfl) (Mur.shr64 32 3 (.tmp 9) (.tmp 12) rfl (Mur.u64n n) 32 .i64 (by kernel_rfl) (by kernel_rfl) (by omega) 4294967296 rfl) ?_
  refine Wk.rPure 7 (some 14) (.int .u8 (((Mur.u64n n) / 4294967296 % 256 : Nat) : Int)) rfl rfl (by kernel_rfl) (Mur.conv_u8 32 5 (.tmp 13) rfl (by kernel_rfl) Tryd.underlying5 .u64 ((Mur.u64n n) / 4294967296) (by kernel_rfl)) ?_
  refine Wk.rPure 8 (some 15) (.pointer (some ⟨w.heap.size, 3, none⟩)) rfl rfl (by kernel_rfl) (Wk.index_arr 75 5 (.tmp 2) (.tmp 7) rfl 8 Tryd.underlying75 1 (by kernel_rfl) w.heap.size 0 3 .i64 (by kernel_rfl) (by kernel_rfl) (by decide)) ?_
  refine Wk.rExS 9 none _ rfl rfl (by kernel_rfl) (Wk.store1 5 (.tmp 15) (.tmp 14) rfl (by kernel_rfl) w.heap.size 3 (by kernel_rfl) (.int .u8 (((Mur.u64n n) / 4294967296 % 256 : Nat) : Int)) (by kernel_rfl) rfl 75 #[.int .u8 (((Mur.u64n n) / 72057594037927936 % 256 : Nat) : Int), .int .u8 (((Mur.u64n n) / 281474976710656 % 256 : Nat) : Int), .int .u8 (((Mur.u64n n) / 1099511627776 % 256 : Nat) : Int), .int .u8 0, .int .u8 0, .int .u8 0, .int .u8 0, .int .u8 0] hb4 (by simp)) ?_
  rintro W5 ⟨hb5, ch5⟩
  replace hb5 : W5.heap[w.heap.size]? = some (.cells #[.int .u8 (((Mur.u64n n) / 72057594037927936 % 256 : Nat) : Int), .int .u8 (((Mur.u64n n) / 281474976710656 % 256 : Nat) : Int), .int .u8 (((Mur.u64n n) / 1099511627776 % 256 : Nat) : Int), .int .u8 (((Mur.u64n n) / 4294967296 % 256 : Nat) : Int), .int .u8 0, .int .u8 0, .int .u8 0, .int .u8 0] 75 (0, 0)) := hb5
  have zz5 := ch5.size
  refine Wk.rEnd 10 rfl ?_
  refine Wk.inN ?_
  refine Wk.nxt ?_
  refine Wk.reg ?_
  refine Wk.rPure 0 (some 16) (.int .i64 4) rfl rfl (by kernel_rfl) (Wk.int64 (n := 3 + 1) (z := 4) (by omega) (by omega) (by omega) (by kernel_rfl)) ?_
  refine Wk.rPure 1 (some 4) (.int .i64 4) rfl rfl (by kernel_rfl) (by kernel_rfl) ?_
  refine Wk.rEnd 2 rfl ?_
  refine Wk.nxt ?_
  refine Wk.rdS ?_
  refine wp_seq ?_
  refine Wk.reg ?_
  refine Wk.rPure 0 (some 5) (.bool true) rfl rfl (by kernel_rfl) (Wk.boolT (b := decide ((4 : Int) < (8 : Int))) (decide_eq_true (by decide)) (by kernel_rfl)) ?_
  refine Wk.rEnd 1 rfl ?_
  refine Wk.nxt ?_
  refine wp_seq ?_
  refine wp_cond_true (by kernel_rfl) ?_
  refine wp_skip ?_
  refine Wk.nxt ?_
  refine wp_seq ?_
  refine wp_block ?_
  refine wp_seq ?_
  refine Wk.reg ?_
  refine Wk.rPure 0 (some 6) (.int .i64 4) rfl rfl (by kernel_rfl) (by kernel_rfl) ?_
  refine Wk.rPure 1 (some 3) (.int .i64 4) rfl rfl (by kernel_rfl) (by kernel_rfl) ?_
  refine Wk.rEnd 2 rfl ?_
  refine Wk.nxt ?_
  refine Wk.reg ?_
  refine Wk.rPure 0 (some 7) (.int .i64 4) rfl rfl (by kernel_rfl) (by kernel_rfl) ?_
  refine Wk.rPure 1 (some 8) (.int .i64 n) rfl rfl (by kernel_rfl) (by kernel_rfl) ?_
  refine Wk.rPure 2 (some 9) (.int .u64 ((Mur.u64n n : Nat) : Int)) rfl rfl (by kernel_rfl) (Mur.conv_u64n 3 32 (.tmp 8) rfl (by kernel_rfl) Tryd.underlying32 .i64 n (by kernel_rfl)) ?_
  refine Wk.rPure 3 (some 10) (.int .i64 4) rfl rfl (by kernel_rfl) (by kernel_rfl) ?_
  refine Wk.rPure 4 (some 11) (.int .i64 32) rfl rfl (by kernel_rfl) (Wk.int64 (n := 8 * 4) (z := 32) (by omega) (by omega) (by omega) (by kernel_rfl)) ?_
  refine Wk.rPure 5 (some 12) (.int .i64 24) rfl rfl (by kernel_rfl) (Wk.int64 (n := 56 - 32) (z := 24) (by omega) (by omega) (by omega) (by kernel_rfl)) ?_
  refine Wk.rPure 6 (some 13) (.int .u64 (((Mur.u64n n) / 16777216 : Nat) : Int)) rfl rfl (by kernel_rfl) (Mur.shr64 32 3 (.tmp 9) (.tmp 12) rfl (Mur.u64n n) 24 .i64 (by kernel_rfl) (by kernel_rfl) (by omega) 16777216 rfl) ?_
  refine Wk.rPure 7 (some 14) (.int .u8 (((Mur.u64n n) / 16777216 % 256 : Nat) : Int)) rfl rfl (by kernel_rfl) (Mur.conv_u8 32 5 (.tmp 13) rfl (by kernel_rfl) Tryd.underlying5 .u64 ((Mur.u64n n) / 16777216) (by kernel_rfl)) ?_
  refine Wk.rPure 8 (some 15) (.pointer (some ⟨w.heap.size, 4, none⟩)) rfl rfl (by kernel_rfl) (Wk.index_arr 75 5 (.tmp 2) (.tmp 7) rfl 8 Tryd.underlying75 1 (by kernel_rfl) w.heap.size 0 4 .i64 (by kernel_rfl) (by kernel_rfl) (by decide)) ?_
  refine Wk.rExS 9 none _ rfl rfl (by kernel_rfl) (Wk.store1 5 (.tmp 15) (.tmp 14) rfl (by kernel_rfl) w.heap.size 4 (by kernel_rfl) (.int .u8 (((Mur.u64n n) / 16777216 % 256 : Nat) : Int)) (by kernel_rfl) rfl 75 #[.int .u8 (((Mur.u64n n) / 72057594037927936 % 256 : Nat) : Int), .int .u8 (((Mur.u64n n) / 281474976710656 % 256 : Nat) : Int), .int .u8 (((Mur.u64n n) / 1099511627776 % 256 : Nat) : Int), .int .u8 (((Mur.u64n n) / 4294967296 % 256 : Nat) : Int), .int .u8 0, .int .u8 0, .int .u8 0, .int .u8 0] hb5 (by simp)) ?_
  rintro W6 ⟨hb6, ch6⟩
  replace hb6 : W6.heap[w.heap.size]? = some (.cells #[.int .u8 (((Mur.u64n n) / 72057594037927936 % 256 : Nat) : Int), .int .u8 (((Mur.u64n n) / 281474976710656 % 256 : Nat) : Int), .int .u8 (((Mur.u64n n) / 1099511627776 % 256 : Nat) : Int), .int .u8 (((Mur.u64n n) / 4294967296 % 256 : Nat) : Int), .int .u8 (((Mur.u64n n) / 16777216 % 256 : Nat) : Int), .int .u8 0, .int .u8 0, .int .u8 0] 75 (0, 0)) := hb6
  have zz6 := ch6.size
  refine Wk.rEnd 10 rfl ?_
  refine Wk.inN ?_
  refine Wk.nxt ?_
  refine Wk.reg ?_
  refine Wk.rPure 0 (some 16) (.int .i64 5) rfl rfl (by kernel_rfl) (Wk.int64 (n := 4 + 1) (z := 5) (by omega) (by omega) (by omega) (by kernel_rfl)) ?_
  refine Wk.rPure 1 (some 4) (.int .i64 5) rfl rfl (by kernel_rfl) (by kernel_rfl) ?_
  refine Wk.rEnd 2 rfl ?_
  refine Wk.nxt ?_
  refine Wk.rdS ?_
  refine wp_seq ?_
  refine Wk.reg ?_
  refine Wk.rPure 0 (some 5) (.bool true) rfl rfl (by kernel_rfl) (Wk.boolT (b := decide ((5 : Int) < (8 : Int))) (decide_eq_true (by decide)) (by kernel_rfl)) ?_
  refine Wk.rEnd 1 rfl ?_
  refine Wk.nxt ?_
  refine wp_seq ?_
  refine wp_cond_true (by kernel_rfl) ?_
  refine wp_skip ?_
  refine Wk.nxt ?_
  refine wp_seq ?_
  refine wp_block ?_
  refine wp_seq ?_
  refine Wk.reg ?_
  refine Wk.rPure 0 (some 6) (.int .i64 5) rfl rfl (by kernel_rfl) (by kernel_rfl) ?_
  refine Wk.rPure 1 (some 3) (.int .i64 5) rfl rfl (by kernel_rfl) (by kernel_rfl) ?_
  refine Wk.rEnd 2 rfl ?_
  refine Wk.nxt ?_
  refine Wk.reg ?_
  refine Wk.rPure 0 (some 7) (.int .i64 5) rfl rfl (by kernel_rfl) (by kernel_rfl) ?_
  refine Wk.rPure 1 (some 8) (.int .i64 n) rfl rfl (by kernel_rfl) (by kernel_rfl) ?_
  refine Wk.rPure 2 (some 9) (.int .u64 ((Mur.u64n n : Nat) : Int)) rfl rfl (by kernel_rfl) (Mur.conv_u64n 3 32 (.tmp 8) rfl (by kernel_rfl) Tryd.underlying32 .i64 n (by kernel_rfl)) ?_
  refine Wk.rPure 3 (some 10) (.int .i64 5) rfl rfl (by kernel_rfl) (by kernel_rfl) ?_
  refine Wk.rPure 4 (some 11) (.int .i64 40) rfl rfl (by kernel_rfl) (Wk.int64 (n := 8 * 5) (z := 40) (by omega) (by omega) (by omega) (by kernel_rfl)) ?_
  refine Wk.rPure 5 (some 12) (.int .i64 16) rfl rfl (by kernel_rfl) (Wk.int64 (n := 56 - 40) (z := 16) (by omega) (by omega) (by omega) (by kernel_rfl)) ?_
  refine Wk.rPure 6 (some 13) (.int .u64 (((Mur.u64n n) / 65536 : Nat) : Int)) rfl rfl (by kernel_rfl) (Mur.shr64 32 3 (.tmp 9) (.tmp 12) rfl (Mur.u64n n) 16 .i64 (by kernel_rfl) (by kernel_rfl) (by omega) 65536 rfl) ?_
  refine Wk.rPure 7 (some 14) (.int .u8 (((Mur.u64n n) / 65536 % 256 : Nat) : Int)) rfl rfl (by kernel_rfl) (Mur.conv_u8 32 5 (.tmp 13) rfl (by kernel_rfl) Tryd.underlying5 .u64 ((Mur.u64n n) / 65536) (by kernel_rfl)) ?_
  refine Wk.rPure 8 (some 15) (.pointer (some ⟨w.heap.size, 5, none⟩)) rfl rfl (by kernel_rfl) (Wk.index_arr 75 5 (.tmp 2) (.tmp 7) rfl 8 Tryd.underlying75 1 (by kernel_rfl) w.heap.size 0 5 .i64 (by kernel_rfl) (by kernel_rfl) (by decide)) ?_
  refine Wk.rExS 9 none _ rfl rfl (by kernel_rfl) (Wk.store1 5 (.tmp 15) (.tmp 14) rfl (by kernel_rfl) w.heap.size 5 (by kernel_rfl) (.int .u8 (((Mur.u64n n) / 65536 % 256 : Nat) : Int)) (by kernel_rfl) rfl 75 #[.int .u8 (((Mur.u64n n) / 72057594037927936 % 256 : Nat) : Int), .int .u8 (((Mur.u64n n) / 281474976710656 % 256 : Nat) : Int), .int .u8 (((Mur.u64n n) / 1099511627776 % 256 : Nat) : Int), .int .u8 (((Mur.u64n n) / 4294967296 % 256 : Nat) : Int), .int .u8 (((Mur.u64n n) / 16777216 % 256 : Nat) : Int), .int .u8 0, .int .u8 0, .int .u8 0] hb6 (by simp)) ?_
  rintro W7 ⟨hb7, ch7⟩
  replace hb7 : W7.heap[w.heap.size]? = some (.cells #[.int .u8 (((Mur.u64n n) / 72057594037927936 % 256 : Nat) : Int), .int .u8 (((Mur.u64n n) / 281474976710656 % 256 : Nat) : Int), .int .u8 (((Mur.u64n n) / 1099511627776 % 256 : Nat) : Int), .int .u8 (((Mur.u64n n) / 4294967296 % 256 : Nat) : Int), .int .u8 (((Mur.u64n n) / 16777216 % 256 : Nat) : Int), .int .u8 (((Mur.u64n n) / 65536 % 256 : Nat) : Int), .int .u8 0, .int .u8 0] 75 (0, 0)) := hb7
  have zz7 := ch7.size
  refine Wk.rEnd 10 rfl ?_
  refine Wk.inN ?_
  refine Wk.nxt ?_
  refine Wk.reg ?_
  refine Wk.rPure 0 (some 16) (.int .i64 6) rfl rfl (by kernel_rfl) (Wk.int64 (n := 5 + 1) (z := 6) (by omega) (by omega) (by omega) (by kernel_rfl)) ?_
  refine Wk.rPure 1 (some 4) (.int .i64 6) rfl rfl (by kernel_rfl) (by kernel_rfl) ?_
  refine Wk.rEnd 2 rfl ?_
  refine Wk.nxt ?_
  refine Wk.rdS ?_
  refine wp_seq ?_
  refine Wk.reg ?_
  refine Wk.rPure 0 (some 5) (.bool true) rfl rfl (by kernel_rfl) (Wk.boolT (b := decide ((6 : Int) < (8 : Int))) (decide_eq_true (by decide)) (by kernel_rfl)) ?_
  refine Wk.rEnd 1 rfl ?_
  refine Wk.nxt ?_
  refine wp_seq ?_
  refine wp_cond_true (by kernel_rfl) ?_
  refine wp_skip ?_
  refine Wk.nxt ?_
  refine wp_seq ?_
  refine wp_block ?_
  refine wp_seq ?_
  refine Wk.reg ?_
  refine Wk.rPure 0 (some 6) (.int .i64 6) rfl rfl (by kernel_rfl) (by kernel_rfl) ?_
  refine Wk.rPure 1 (some 3) (.int .i64 6) rfl rfl (by kernel_rfl) (by kernel_rfl) ?_
  refine Wk.rEnd 2 rfl ?_
  refine Wk.nxt ?_
  refine Wk.reg ?_
  refine Wk.rPure 0 (some 7) (.int .i64 6) rfl rfl (by kernel_rfl) (by kernel_rfl) ?_
  refine Wk.rPure 1 (some 8) (.int .i64 n) rfl rfl (by kernel_rfl) (by kernel_rfl) ?_
  refine Wk.rPure 2 (some 9) (.int .u64 ((Mur.u64n n : Nat) : Int)) rfl rfl (by kernel_rfl) (Mur.conv_u64n 3 32 (.tmp 8) rfl (by kernel_rfl) Tryd.underlying32 .i64 n (by kernel_rfl)) ?_
  refine Wk.rPure 3 (some 10) (.int .i64 6) rfl rfl (by kernel_rfl) (by kernel_rfl) ?_
  refine Wk.rPure 4 (some 11) (.int .i64 48) rfl rfl (by kernel_rfl) (Wk.int64 (n := 8 * 6) (z := 48) (by omega) (by omega) (by omega) (by kernel_rfl)) ?_
  refine Wk.rPure 5 (some 12) (.int .i64 8) rfl rfl (by kernel_rfl) (Wk.int64 (n := 56 - 48) (z := 8) (by omega) (by omega) (by omega) (by kernel_rfl)) ?_
  refine Wk.rPure 6 (some 13) (.int .u64 (((Mur.u64n n) / 256 : Nat) : Int)) rfl rfl (by kernel_rfl) (Mur.shr64 32 3 (.tmp 9) (.tmp 12) rfl (Mur.u64n n) 8 .i64 (by kernel_rfl) (by kernel_rfl) (by omega) 256 rfl) ?_
  refine Wk.rPure 7 (some 14) (.int .u8 (((Mur.u64n n) / 256 % 256 : Nat) : Int)) rfl rfl (by kernel_rfl) (Mur.conv_u8 32 5 (.tmp 13) rfl (by kernel_rfl) Tryd.underlying5 .u64 ((Mur.u64n n) / 256) (by kernel_rfl)) ?_
  refine Wk.rPure 8 (some 15) (.pointer (some ⟨w.heap.size, 6, none⟩)) rfl rfl (by kernel_rfl) (Wk.index_arr 75 5 (.tmp 2) (.tmp 7) rfl 8 Tryd.underlying75 1 (by kernel_rfl) w.heap.size 0 6 .i64 (by kernel_rfl) (by kernel_rfl) (by decide)) ?_
  refine Wk.rExS 9 none _ rfl rfl (by kernel_rfl) (Wk.store1 5 (.tmp 15) (.tmp 14) rfl (by kernel_rfl) w.heap.size 6 (by kernel_rfl) (.int .u8 (((Mur.u64n n) / 256 % 256 : Nat) : Int)) (by kernel_rfl) rfl 75 #[.int .u8 (((Mur.u64n n) / 72057594037927936 % 256 : Nat) : Int), .int .u8 (((Mur.u64n n) / 281474976710656 % 256 : Nat) : Int), .int .u8 (((Mur.u64n n) / 1099511627776 % 256 : Nat) : Int), .int .u8 (((Mur.u64n n) / 4294967296 % 256 : Nat) : Int), .int .u8 (((Mur.u64n n) / 16777216 % 256 : Nat) : Int), .int .u8 (((Mur.u64n n) / 65536 % 256 : Nat) : Int), .int .u8 0, .int .u8 0] hb7 (by simp)) ?_
  rintro W8 ⟨hb8, ch8⟩
  replace hb8 : W8.heap[w.heap.size]? = some (.cells #[.int .u8 (((Mur.u64n n) / 72057594037927936 % 256 : Nat) : Int), .int .u8 (((Mur.u64n n) / 281474976710656 % 256 : Nat) : Int), .int .u8 (((Mur.u64n n) / 1099511627776 % 256 : Nat) : Int), .int .u8 (((Mur.u64n n) / 4294967296 % 256 : Nat) : Int), .int .u8 (((Mur.u64n n) / 16777216 % 256 : Nat) : Int), .int .u8 (((Mur.u64n n) / 65536 % 256 : Nat) : Int), .int .u8 (((Mur.u64n n) / 256 % 256 : Nat) : Int), .int .u8 0] 75 (0, 0)) := hb8
  have zz8 := ch8.size
  refine Wk.rEnd 10 rfl ?_
  refine Wk.inN ?_
  refine Wk.nxt ?_
  refine Wk.reg ?_
  refine Wk.rPure 0 (some 16) (.int .i64 7) rfl rfl (by kernel_rfl) (Wk.int64 (n := 6 + 1) (z := 7) (by omega) (by omega) (by omega) (by kernel_rfl)) ?_
  refine Wk.rPure 1 (some 4) (.int .i64 7) rfl rfl (by kernel_rfl) (by kernel_rfl) ?_
  refine Wk.rEnd 2 rfl ?_
  refine Wk.nxt ?_
  refine Wk.rdS ?_
  refine wp_seq ?_
  refine Wk.reg ?_
  refine Wk.rPure 0 (some 5) (.bool true) rfl rfl (by kernel_rfl) (Wk.boolT (b := decide ((7 : Int) < (8 : Int))) (decide_eq_true (by decide)) (by kernel_rfl)) ?_
  refine Wk.rEnd 1 rfl ?_
  refine Wk.nxt ?_
  refine wp_seq ?_
  refine wp_cond_true (by kernel_rfl) ?_
  refine wp_skip ?_
  refine Wk.nxt ?_
  refine wp_seq ?_
  refine wp_block ?_
  refine wp_seq ?_
  refine Wk.reg ?_
  refine Wk.rPure 0 (some 6) (.int .i64 7) rfl rfl (by kernel_rfl) (by kernel_rfl) ?_
  refine Wk.rPure 1 (some 3) (.int .i64 7) rfl rfl (by kernel_rfl) (by kernel_rfl) ?_
  refine Wk.rEnd 2 rfl ?_
  refine Wk.nxt ?_
  refine Wk.reg ?_
  refine Wk.rPure 0 (some 7) (.int .i64 7) rfl rfl (by kernel_rfl) (by kernel_rfl) ?_
  refine Wk.rPure 1 (some 8) (.int .i64 n) rfl rfl (by kernel_rfl) (by kernel_rfl) ?_
  refine Wk.rPure 2 (some 9) (.int .u64 ((Mur.u64n n : Nat) : Int)) rfl rfl (by kernel_rfl) (Mur.conv_u64n 3 32 (.tmp 8) rfl (by kernel_rfl) Tryd.underlying32 .i64 n (by kernel_rfl)) ?_
  refine Wk.rPure 3 (some 10) (.int .i64 7) rfl rfl (by kernel_rfl) (by kernel_rfl) ?_
  refine Wk.rPure 4 (some 11) (.int .i64 56) rfl rfl (by kernel_rfl) (Wk.int64 (n := 8 * 7) (z := 56) (by omega) (by omega) (by omega) (by kernel_rfl)) ?_
  refine Wk.rPure 5 (some 12) (.int .i64 0) rfl rfl (by kernel_rfl) (Wk.int64 (n := 56 - 56) (z := 0) (by omega) (by omega) (by omega) (by kernel_rfl)) ?_
  refine Wk.rPure 6 (some 13) (.int .u64 (((Mur.u64n n) / 1 : Nat) : Int)) rfl rfl (by kernel_rfl) (Mur.shr64 32 3 (.tmp 9) (.tmp 12) rfl (Mur.u64n n) 0 .i64 (by kernel_rfl) (by kernel_rfl) (by omega) 1 rfl) ?_
  refine Wk.rPure 7 (some 14) (.int .u8 (((Mur.u64n n) / 1 % 256 : Nat) : Int)) rfl rfl (by kernel_rfl) (Mur.conv_u8 32 5 (.tmp 13) rfl (by kernel_rfl) Tryd.underlying5 .u64 ((Mur.u64n n) / 1) (by kernel_rfl)) ?_
  refine Wk.rPure 8 (some 15) (.pointer (some ⟨w.heap.size, 7, none⟩)) rfl rfl (by kernel_rfl) (Wk.index_arr 75 5 (.tmp 2) (.tmp 7) rfl 8 Tryd.underlying75 1 (by kernel_rfl) w.heap.size 0 7 .i64 (by kernel_rfl) (by kernel_rfl) (by decide)) ?_
  refine Wk.rExS 9 none _ rfl rfl (by kernel_rfl) (Wk.store1 5 (.tmp 15) (.tmp 14) rfl (by kernel_rfl) w.heap.size 7 (by kernel_rfl) (.int .u8 (((Mur.u64n n) / 1 % 256 : Nat) : Int)) (by kernel_rfl) rfl 75 #[.int .u8 (((Mur.u64n n) / 72057594037927936 % 256 : Nat) : Int), .int .u8 (((Mur.u64n n) / 281474976710656 % 256 : Nat) : Int), .int .u8 (((Mur.u64n n) / 1099511627776 % 256 : Nat) : Int), .int .u8 (((Mur.u64n n) / 4294967296 % 256 : Nat) : Int), .int .u8 (((Mur.u64n n) / 16777216 % 256 : Nat) : Int), .int .u8 (((Mur.u64n n) / 65536 % 256 : Nat) : Int), .int .u8 (((Mur.u64n n) / 256 % 256 : Nat) : Int), .int .u8 0] hb8 (by simp)) ?_
  rintro W9 ⟨hb9, ch9⟩
  replace hb9 : W9.heap[w.heap.size]? = some (.cells #[.int .u8 (((Mur.u64n n) / 72057594037927936 % 256 : Nat) : Int), .int .u8 (((Mur.u64n n) / 281474976710656 % 256 : Nat) : Int), .int .u8 (((Mur.u64n n) / 1099511627776 % 256 : Nat) : Int), .int .u8 (((Mur.u64n n) / 4294967296 % 256 : Nat) : Int), .int .u8 (((Mur.u64n n) / 16777216 % 256 : Nat) : Int), .int .u8 (((Mur.u64n n) / 65536 % 256 : Nat) : Int), .int .u8 (((Mur.u64n n) / 256 % 256 : Nat) : Int), .int .u8 (((Mur.u64n n) / 1 % 256 : Nat) : Int)] 75 (0, 0)) := hb9
  have zz9 := ch9.size
  refine Wk.rEnd 10 rfl ?_
  refine Wk.inN ?_
  refine Wk.nxt ?_
  refine Wk.reg ?_
  refine Wk.rPure 0 (some 16) (.int .i64 8) rfl rfl (by kernel_rfl) (Wk.int64 (n := 7 + 1) (z := 8) (by omega) (by omega) (by omega) (by kernel_rfl)) ?_
  refine Wk.rPure 1 (some 4) (.int .i64 8) rfl rfl (by kernel_rfl) (by kernel_rfl) ?_
  refine Wk.rEnd 2 rfl ?_
  refine Wk.nxt ?_
  refine Wk.rdS ?_
  refine wp_seq ?_
  refine Wk.reg ?_
  refine Wk.rPure 0 (some 5) (.bool false) rfl rfl (by kernel_rfl) (Wk.boolF (b := decide ((8 : Int) < (8 : Int))) (decide_eq_false (by decide)) (by kernel_rfl)) ?_
  refine Wk.rEnd 1 rfl ?_
  refine Wk.nxt ?_
  refine wp_seq ?_
  refine wp_cond_false (by kernel_rfl) ?_
  refine wp_exit ?_
  refine Wk.thX ?_
  refine Wk.thX ?_
  refine Wk.inX ?_
  refine Wk.nxt ?_
  refine wp_seq ?_
  refine Wk.reg ?_
  refine Wk.rPure 0 (some 17) (.agg #[.int .u8 (((Mur.u64n n) / 72057594037927936 % 256 : Nat) : Int), .int .u8 (((Mur.u64n n) / 281474976710656 % 256 : Nat) : Int), .int .u8 (((Mur.u64n n) / 1099511627776 % 256 : Nat) : Int), .int .u8 (((Mur.u64n n) / 4294967296 % 256 : Nat) : Int), .int .u8 (((Mur.u64n n) / 16777216 % 256 : Nat) : Int), .int .u8 (((Mur.u64n n) / 65536 % 256 : Nat) : Int), .int .u8 (((Mur.u64n n) / 256 % 256 : Nat) : Int), .int .u8 (((Mur.u64n n) / 1 % 256 : Nat) : Int)]) rfl rfl (by kernel_rfl) (Wk.loadR 75 (.tmp 2) rfl _ Tryd.underlying75 rfl w.heap.size 0 (by kernel_rfl) ([.int .u8 (((Mur.u64n n) / 72057594037927936 % 256 : Nat) : Int), .int .u8 (((Mur.u64n n) / 281474976710656 % 256 : Nat) : Int), .int .u8 (((Mur.u64n n) / 1099511627776 % 256 : Nat) : Int), .int .u8 (((Mur.u64n n) / 4294967296 % 256 : Nat) : Int), .int .u8 (((Mur.u64n n) / 16777216 % 256 : Nat) : Int), .int .u8 (((Mur.u64n n) / 65536 % 256 : Nat) : Int), .int .u8 (((Mur.u64n n) / 256 % 256 : Nat) : Int), .int .u8 (((Mur.u64n n) / 1 % 256 : Nat) : Int)]) (by kernel_rfl) (Wk.range_row hb9)) ?_
  refine Wk.rExS 1 none _ rfl rfl (by kernel_rfl) (Wk.storeR 75 (.tmp 2) (.tmp 17) rfl w.heap.size 0 (by kernel_rfl) ([.int .u8 (((Mur.u64n n) / 72057594037927936 % 256 : Nat) : Int), .int .u8 (((Mur.u64n n) / 281474976710656 % 256 : Nat) : Int), .int .u8 (((Mur.u64n n) / 1099511627776 % 256 : Nat) : Int), .int .u8 (((Mur.u64n n) / 4294967296 % 256 : Nat) : Int), .int .u8 (((Mur.u64n n) / 16777216 % 256 : Nat) : Int), .int .u8 (((Mur.u64n n) / 65536 % 256 : Nat) : Int), .int .u8 (((Mur.u64n n) / 256 % 256 : Nat) : Int), .int .u8 (((Mur.u64n n) / 1 % 256 : Nat) : Int)]) (by kernel_rfl) (by kernel_rfl) (by intro v hv; simp at hv; rcases hv with h | h | h | h | h | h | h | h <;> (subst h; rfl)) 75 ([.int .u8 (((Mur.u64n n) / 72057594037927936 % 256 : Nat) : Int), .int .u8 (((Mur.u64n n) / 281474976710656 % 256 : Nat) : Int), .int .u8 (((Mur.u64n n) / 1099511627776 % 256 : Nat) : Int), .int .u8 (((Mur.u64n n) / 4294967296 % 256 : Nat) : Int), .int .u8 (((Mur.u64n n) / 16777216 % 256 : Nat) : Int), .int .u8 (((Mur.u64n n) / 65536 % 256 : Nat) : Int), .int .u8 (((Mur.u64n n) / 256 % 256 : Nat) : Int), .int .u8 (((Mur.u64n n) / 1 % 256 : Nat) : Int)]) hb9 (by simp)) ?_
  rintro W10 ⟨hb10, ch10⟩
  replace hb10 : W10.heap[w.heap.size]? = some (.cells #[.int .u8 (((Mur.u64n n) / 72057594037927936 % 256 : Nat) : Int), .int .u8 (((Mur.u64n n) / 281474976710656 % 256 : Nat) : Int), .int .u8 (((Mur.u64n n) / 1099511627776 % 256 : Nat) : Int), .int .u8 (((Mur.u64n n) / 4294967296 % 256 : Nat) : Int), .int .u8 (((Mur.u64n n) / 16777216 % 256 : Nat) : Int), .int .u8 (((Mur.u64n n) / 65536 % 256 : Nat) : Int), .int .u8 (((Mur.u64n n) / 256 % 256 : Nat) : Int), .int .u8 (((Mur.u64n n) / 1 % 256 : Nat) : Int)] 75 (0, 0)) := hb10
  have zz10 := ch10.size
  refine Wk.rEnd 2 rfl ?_
  refine Wk.nxt ?_
  refine wp_ret ?_
  have kk1 : Wk.Chg [] w W1 := Wk.Chg.step ((Wk.Chg.refl _).more (by simp)) ch1 trivial
  have kk2 := Wk.Chg.step kk1 ch2 ⟨.inr (by omega), trivial⟩
  have kk3 := Wk.Chg.step kk2 ch3 ⟨.inr (by omega), trivial⟩
  have kk4 := Wk.Chg.step kk3 ch4 ⟨.inr (by omega), trivial⟩
  have kk5 := Wk.Chg.step kk4 ch5 ⟨.inr (by omega), trivial⟩
  have kk6 := Wk.Chg.step kk5 ch6 ⟨.inr (by omega), trivial⟩
  have kk7 := Wk.Chg.step kk6 ch7 ⟨.inr (by omega), trivial⟩
  have kk8 := Wk.Chg.step kk7 ch8 ⟨.inr (by omega), trivial⟩
  have kk9 := Wk.Chg.step kk8 ch9 ⟨.inr (by omega), trivial⟩
  have kk10 := Wk.Chg.step kk9 ch10 ⟨.inr (by omega), trivial⟩
  refine Wk.ret (.agg #[.int .u8 (((Mur.u64n n) / 72057594037927936 % 256 : Nat) : Int), .int .u8 (((Mur.u64n n) / 281474976710656 % 256 : Nat) : Int), .int .u8 (((Mur.u64n n) / 1099511627776 % 256 : Nat) : Int), .int .u8 (((Mur.u64n n) / 4294967296 % 256 : Nat) : Int), .int .u8 (((Mur.u64n n) / 16777216 % 256 : Nat) : Int), .int .u8 (((Mur.u64n n) / 65536 % 256 : Nat) : Int), .int .u8 (((Mur.u64n n) / 256 % 256 : Nat) : Int), .int .u8 (((Mur.u64n n) / 1 % 256 : Nat) : Int)]) rfl (results_cell_row rfl _ _ w.heap.size 75 #[.int .u8 (((Mur.u64n n) / 72057594037927936 % 256 : Nat) : Int), .int .u8 (((Mur.u64n n) / 281474976710656 % 256 : Nat) : Int), .int .u8 (((Mur.u64n n) / 1099511627776 % 256 : Nat) : Int), .int .u8 (((Mur.u64n n) / 4294967296 % 256 : Nat) : Int), .int .u8 (((Mur.u64n n) / 16777216 % 256 : Nat) : Int), .int .u8 (((Mur.u64n n) / 65536 % 256 : Nat) : Int), .int .u8 (((Mur.u64n n) / 256 % 256 : Nat) : Int), .int .u8 (((Mur.u64n n) / 1 % 256 : Nat) : Int)] (0, 0) _ (by kernel_rfl) hb10 Tryd.underlying75 rfl (by kernel_rfl)) ?_
  exact ⟨_, Go.Lib.hid rfl, Mur.e8_length _, by rw [Mur.e8_cells], kk10⟩
theorem tag_any (s : List UInt8) (A : Option Addr) (m c : Nat) (k r t : List UInt8) (n : Int) (hk : k.length = 32) (hr : r.length = 32) (_ht : t.length = 32) (w : World) (hv : ShaVars w) (hb : Byt w A m s) (hnc : m ≤ c) (ha : A = none → c = 0) (hn : m ≤ 140737488351232) : Calls Tryd.prog 34 #[.slice A m c, .agg (attC k r n t).toArray] w fun e w' => ∃ d, Hid (d = Mur.hmac s (Mur.body k r n)) ∧ d.length = 32 ∧ e = .returned (.agg (b8s d).toArray) ∧ Wk.Chg [] w w' := by
  have HV := Go.Lib.hid hv
  clear hv
  have HBY := Go.Lib.hid hb
  clear hb
  have HA := Go.Lib.hid ha
  clear ha
  refine calls_of_wp Tryd.func34 rfl ?_
  refine wp_seq ?_
  refine Wk.reg ?_
  refine Wk.rEx 0 (some 3) _ rfl rfl (by kernel_rfl) (Wk.new_ex (.pointer (some ⟨w.heap.size, 0, none⟩)) ((Mur.attC k r n t).toArray) 36 (by kernel_rfl)) ?_
  rintro _ W1 ⟨rfl, hb1, ch1, sz1⟩
  have zz1 := ch1.size
  refine Wk.rEx 1 (some 4) _ rfl rfl (by kernel_rfl) (Wk.new_ex (.pointer (some ⟨W1.heap.size, 0, none⟩)) #[.int .u8 0, .int .u8 0, .int .u8 0, .int .u8 0, .int .u8 0, .int .u8 0, .int .u8 0, .int .u8 0, .int .u8 0, .int .u8 0, .int .u8 0, .int .u8 0, .int .u8 0, .int .u8 0, .int .u8 0, .int .u8 0, .int .u8 0, .int .u8 0, .int .u8 0, .int .u8 0, .int .u8 0, .int .u8 0, .int .u8 0, .int .u8 0, .int .u8 0, .int .u8 0, .int .u8 0, .int .u8 0, .int .u8 0, .int .u8 0, .int .u8 0, .int .u8 0] 25 (by kernel_rfl)) ?_
  rintro _ W2 ⟨rfl, hb2, ch2, sz2⟩
  have zz2 := ch2.size
  refine Wk.rEnd 2 rfl ?_
  refine Wk.nxt ?_
  refine wp_seq ?_
  refine Wk.reg ?_
  refine Wk.rPure 0 (some 6) (.pointer (some ⟨w.heap.size, 64, none⟩)) rfl rfl (by kernel_rfl) (by kernel_rfl) ?_
  refine Wk.rPure 1 (some 7) (.int .i64 n) rfl rfl (by kernel_rfl) (Wk.load1 3 (.tmp 6) rfl (by kernel_rfl) ⟨w.heap.size, 64, none⟩ (by kernel_rfl) (.int .i64 n) (Mur.att_len hk hr (Wk.Chg.hp ch2 hb1 trivial))) ?_
  refine Wk.rCall 2 (some 8) 43 [.tmp 7] #[3] [.int .i64 n] rfl rfl (by kernel_rfl) rfl (by kernel_rfl) (by kernel_rfl) ?_
  refine (eight_any n W2).mono ?_
  rintro _ W3 ⟨e8_1, hd1, hdl1, rfl, ch3⟩
  have zz3 := ch3.size
  refine ⟨_, rfl, ?_⟩
  refine Wk.rEx 3 (some 5) _ rfl rfl (by kernel_rfl) (Wk.new_ex (.pointer (some ⟨W3.heap.size, 0, none⟩)) #[.int .u8 0, .int .u8 0, .int .u8 0, .int .u8 0, .int .u8 0, .int .u8 0, .int .u8 0, .int .u8 0] 75 (by kernel_rfl)) ?_
  rintro _ W4 ⟨rfl, hb3, ch4, sz3⟩
  have zz4 := ch4.size
  refine Wk.rExS 4 none _ rfl rfl (by kernel_rfl) (Mur.storeAll 75 (.tmp 5) (.tmp 8) rfl W3.heap.size (by kernel_rfl) e8_1 8 hdl1 (by kernel_rfl) (by kernel_rfl) 75 #[.int .u8 0, .int .u8 0, .int .u8 0, .int .u8 0, .int .u8 0, .int .u8 0, .int .u8 0, .int .u8 0] hb3 rfl) ?_
  rintro W5 ⟨hb4, ch5⟩
  have zz5 := ch5.size
  refine Wk.rEnd 5 rfl ?_
  refine Wk.nxt ?_
  refine wp_seq ?_
  refine Wk.dReg ([W1.heap.size]) (by kernel_rfl) ?_
  intro W6 ch6 sz4
  have zz6 := ch6.size
  have sS1 : Wk.Chg ([W1.heap.size]) W6 W6 := (Wk.Chg.refl _).more (by simp)
  refine Wk.dVal 0 (some 9) (.slice A m c) rfl rfl (by kernel_rfl) (by kernel_rfl) (by kernel_rfl) (fun _ _ _ h => h) (by kernel_rfl) (fun w' hw' => by kernel_rfl) sS1 ?_
  refine Wk.dVal 2 (some 11) (.pointer (some ⟨w.heap.size, 0, none⟩)) rfl rfl (by kernel_rfl) (by kernel_rfl) (by kernel_rfl) (fun _ _ _ h => h) (by kernel_rfl) (fun w' hw' => by kernel_rfl) sS1 ?_
  refine Wk.dVal 3 (some 12) (.slice (some ⟨w.heap.size, 0, none⟩) 32 32) rfl rfl (by kernel_rfl) (by kernel_rfl) (by kernel_rfl) (fun _ _ _ h => h) (by kernel_rfl) (fun w' hw' => (Mur.arr_slice 25 5 (.tmp 11) 32 rfl Tryd.underlying25 (by kernel_rfl) w.heap.size (by kernel_rfl))) sS1 ?_
  refine Wk.dVal 4 (some 13) (.pointer (some ⟨w.heap.size, 32, none⟩)) rfl rfl (by kernel_rfl) (by kernel_rfl) (by kernel_rfl) (fun _ _ _ h => h) (by kernel_rfl) (fun w' hw' => by kernel_rfl) sS1 ?_
  refine Wk.dVal 5 (some 14) (.slice (some ⟨w.heap.size, 32, none⟩) 32 32) rfl rfl (by kernel_rfl) (by kernel_rfl) (by kernel_rfl) (fun _ _ _ h => h) (by kernel_rfl) (fun w' hw' => (Mur.arr_slice_at 25 5 (.tmp 13) 32 rfl Tryd.underlying25 (by kernel_rfl) w.heap.size 32 (by kernel_rfl))) sS1 ?_
  refine Wk.dVal 6 (some 15) (.slice (some ⟨W3.heap.size, 0, none⟩) 8 8) rfl rfl (by kernel_rfl) (by kernel_rfl) (by kernel_rfl) (fun _ _ _ h => h) (by kernel_rfl) (fun w' hw' => (Mur.arr_slice 75 5 (.tmp 5) 8 rfl Tryd.underlying75 (by kernel_rfl) W3.heap.size (by kernel_rfl))) sS1 ?_
  refine Wk.dOp 1 (by kernel_rfl) ?_
  refine Wk.oEx (some 10) _ rfl rfl (by kernel_rfl) (Wk.new_ex (.slice (some ⟨W6.heap.size, 0, none⟩) 1 1) #[.int .u8 17] 5 (by kernel_rfl)) ?_
  rintro _ W7 ⟨rfl, hb5, ch7, sz5⟩
  have zz7 := ch7.size
  have sS2 := Wk.Chg.step sS1 ch7 trivial
  refine ⟨sS2, ?_⟩
  refine Wk.dOp 7 (by kernel_rfl) ?_
  refine Wk.oEx (some 16) _ rfl rfl (by kernel_rfl) (Wk.new_ex (.slice (some ⟨W7.heap.size, 0, none⟩) 4 4) #[.slice (some ⟨W6.heap.size, 0, none⟩) 1 1, .slice (some ⟨w.heap.size, 0, none⟩) 32 32, .slice (some ⟨w.heap.size, 32, none⟩) 32 32, .slice (some ⟨W3.heap.size, 0, none⟩) 8 8] 22 (by kernel_rfl)) ?_
  rintro _ W8 ⟨rfl, hb6, ch8, sz6⟩
  have zz8 := ch8.size
  have sS3 := Wk.Chg.step sS2 ch8 trivial
  refine ⟨sS3, ?_⟩
  refine Wk.dOp 8 (by kernel_rfl) ?_
  refine Wk.oCall (some 17) 13 [.tmp 9, .tmp 16] #[22, 29] [.slice A m c, .slice (some ⟨W7.heap.size, 0, none⟩) 4 4] rfl rfl (by kernel_rfl) rfl (by kernel_rfl) (by kernel_rfl) ?_
  have kk1 : Wk.Chg [] w W1 := Wk.Chg.step ((Wk.Chg.refl _).more (by simp)) ch1 trivial
  have kk2 := Wk.Chg.step kk1 ch2 trivial
  have kk3 := Wk.Chg.step kk2 ch3 trivial
  have kk4 := Wk.Chg.step kk3 ch4 trivial
  have kk5 := Wk.Chg.step kk4 ch5 ⟨.inr (by omega), trivial⟩
  have kk6 := Wk.Chg.step kk5 ch6 trivial
  have kk7 := Wk.Chg.step kk6 ch7 trivial
  have kk8 := Wk.Chg.step kk7 ch8 trivial
  have hby1 := (Mur.byt_row [17] (Wk.Chg.hp ch8 hb5 trivial))
  have hby2 := (Mur.byt_rng (Mur.att_key (Wk.Chg.hp ch8 (Wk.Chg.hp ch7 (Wk.Chg.hp ch6 (Wk.Chg.hp ch5 (Wk.Chg.hp ch4 (Wk.Chg.hp ch3 (Wk.Chg.hp ch2 hb1 trivial) trivial) trivial) ⟨by omega, trivial⟩) trivial) trivial) trivial)) hk)
  have hby3 := (Mur.byt_rng (Mur.att_root hk (Wk.Chg.hp ch8 (Wk.Chg.hp ch7 (Wk.Chg.hp ch6 (Wk.Chg.hp ch5 (Wk.Chg.hp ch4 (Wk.Chg.hp ch3 (Wk.Chg.hp ch2 hb1 trivial) trivial) trivial) ⟨by omega, trivial⟩) trivial) trivial) trivial)) hr)
  have hby4 := (Mur.byt_blk e8_1 hdl1 (Wk.Chg.hp ch8 (Wk.Chg.hp ch7 (Wk.Chg.hp ch6 hb4 trivial) trivial) trivial))
  refine (Tag_any s A m c ([⟨(some ⟨W6.heap.size, 0, none⟩), 1, 1, ([17])⟩, ⟨(some ⟨w.heap.size, 0, none⟩), 32, 32, k⟩, ⟨(some ⟨w.heap.size, 32, none⟩), 32, 32, r⟩, ⟨(some ⟨W3.heap.size, 0, none⟩), 8, 8, e8_1⟩]) (some ⟨W7.heap.size, 0, none⟩) 4 4 W8 (HV.out.below (Wk.Chg.below0 kk8)) (Mur.byt_chg HBY.out kk8 (fun g off e hl => trivial)) (by omega) HA.out (by omega) (Mur.segs_lit [⟨(some ⟨W6.heap.size, 0, none⟩), 1, 1, ([17])⟩, ⟨(some ⟨w.heap.size, 0, none⟩), 32, 32, k⟩, ⟨(some ⟨w.heap.size, 32, none⟩), 32, 32, r⟩, ⟨(some ⟨W3.heap.size, 0, none⟩), 8, 8, e8_1⟩] 4 hb6 (Mur.ok_cons ⟨(show 1 ≤ 1 by omega), (fun h => by cases h), hby1, (show 1 ≤ Go.maxLen by first | omega | (unfold Go.maxLen; omega))⟩ (Mur.ok_cons ⟨(show 32 ≤ 32 by omega), (fun h => by cases h), hby2, (show 32 ≤ Go.maxLen by first | omega | (unfold Go.maxLen; omega))⟩ (Mur.ok_cons ⟨(show 32 ≤ 32 by omega), (fun h => by cases h), hby3, (show 32 ≤ Go.maxLen by first | omega | (unfold Go.maxLen; omega))⟩ (Mur.ok_cons ⟨(show 8 ≤ 8 by omega), (fun h => by cases h), hby4, (show 8 ≤ Go.maxLen by first | omega | (unfold Go.maxLen; omega))⟩ Mur.ok_nil)))) rfl) (by omega) (by show (([17]) ++ (k ++ (r ++ (e8_1 ++ [])))).length ≤ _; simp only [List.length_append, List.length_nil, List.length_cons]; have hl0 := hby1.1; have hl1 := hby2.1; have hl2 := hby3.1; have hl3 := hby4.1; omega)).mono ?_
  rintro _ W9 ⟨dd1, hd2, hdl2, rfl, ch9⟩
  have zz9 := ch9.size
  have sS4 := Wk.Chg.step sS3 ch9 trivial
  refine ⟨_, rfl, sS4, ?_⟩
  refine Wk.dOp 9 (by kernel_rfl) ?_
  refine Wk.oExS none _ rfl rfl (by kernel_rfl) (Mur.storeAll 25 (.tmp 4) (.tmp 17) rfl W1.heap.size (by kernel_rfl) dd1 32 hdl2 (by kernel_rfl) (by kernel_rfl) 25 #[.int .u8 0, .int .u8 0, .int .u8 0, .int .u8 0, .int .u8 0, .int .u8 0, .int .u8 0, .int .u8 0, .int .u8 0, .int .u8 0, .int .u8 0, .int .u8 0, .int .u8 0, .int .u8 0, .int .u8 0, .int .u8 0, .int .u8 0, .int .u8 0, .int .u8 0, .int .u8 0, .int .u8 0, .int .u8 0, .int .u8 0, .int .u8 0, .int .u8 0, .int .u8 0, .int .u8 0, .int .u8 0, .int .u8 0, .int .u8 0, .int .u8 0, .int .u8 0] (Wk.Chg.hp ch9 (Wk.Chg.hp ch8 (Wk.Chg.hp ch7 (Wk.Chg.hp ch6 (Wk.Chg.hp ch5 (Wk.Chg.hp ch4 (Wk.Chg.hp ch3 hb2 trivial) trivial) ⟨by omega, trivial⟩) trivial) trivial) trivial) trivial) rfl) ?_
  rintro W10 ⟨hb7, ch10⟩
  have zz10 := ch10.size
  have sS5 := Wk.Chg.step sS4 ch10 ⟨.inl (by simp), trivial⟩
  refine ⟨sS5, ?_⟩
  refine Wk.dEnd (by kernel_rfl) ?_
  refine Wk.nxt ?_
  refine wp_ret ?_
  have kk9 := Wk.Chg.step kk8 ch9 trivial
  have kk10 := Wk.Chg.step kk9 ch10 ⟨.inr (by omega), trivial⟩
  refine Wk.ret (.agg (b8s dd1).toArray) rfl (results_cell_row rfl _ _ W1.heap.size 25 (b8s dd1).toArray (0, 0) _ (by kernel_rfl) hb7 Tryd.underlying25 rfl (by rw [List.size_toArray, Mur.b8s_length, hdl2]; kernel_rfl)) ?_
  exact ⟨_, Go.Lib.hid (by rw [hd2.out, Mur.body_flat _ _ _ _ _ _ _ _ _ _ _ _ _ _ n _ hd1.out]), hdl2, rfl, kk10⟩
theorem Make_ok (s : List UInt8) (A : Option Addr) (m c : Nat) (k r : List UInt8) (n : Int) (hk : k.length = 32) (hr : r.length = 32) (w : World) (hv : ShaVars w) (hb : Byt w A m s) (hnc : m ≤ c) (ha : A = none → c = 0) (hn : m ≤ 140737488351232) (hm : Mur.may n) : Calls Tryd.prog 18 #[.slice A m c, .agg (b8s k).toArray, .agg (b8s r).toArray, .int .i64 n] w fun e w' => ∃ d, Hid (d = Mur.hmac s (Mur.body k r n)) ∧ d.length = 32 ∧ e = .returned (.tuple #[.agg (attC k r n d).toArray, .int .i64 0]) ∧ Wk.Chg [] w w' := by
  have HV := Go.Lib.hid hv
  clear hv
  have HBY := Go.Lib.hid hb
  clear hb
  have HA := Go.Lib.hid ha
  clear ha
  refine calls_of_wp Tryd.func18 rfl ?_
  refine wp_seq ?_
  refine Wk.reg ?_
  refine Wk.rEx 0 (some 5) _ rfl rfl (by kernel_rfl) (Wk.new_ex (.pointer (some ⟨w.heap.size, 0, none⟩)) ((b8s k).toArray) 25 (by kernel_rfl)) ?_
  rintro _ W1 ⟨rfl, hb1, ch1, sz1⟩
  have zz1 := ch1.size
  refine Wk.rEx 1 (some 6) _ rfl rfl (by kernel_rfl) (Wk.new_ex (.pointer (some ⟨W1.heap.size, 0, none⟩)) ((b8s r).toArray) 25 (by kernel_rfl)) ?_
  rintro _ W2 ⟨rfl, hb2, ch2, sz2⟩
  have zz2 := ch2.size
  refine Wk.rEx 2 (some 8) _ rfl rfl (by kernel_rfl) (Wk.new_ex (.pointer (some ⟨W2.heap.size, 0, none⟩)) #[.int .u8 0, .int .u8 0, .int .u8 0, .int .u8 0, .int .u8 0, .int .u8 0, .int .u8 0, .int .u8 0, .int .u8 0, .int .u8 0, .int .u8 0, .int .u8 0, .int .u8 0, .int .u8 0, .int .u8 0, .int .u8 0, .int .u8 0, .int .u8 0, .int .u8 0, .int .u8 0, .int .u8 0, .int .u8 0, .int .u8 0, .int .u8 0, .int .u8 0, .int .u8 0, .int .u8 0, .int .u8 0, .int .u8 0, .int .u8 0, .int .u8 0, .int .u8 0, .int .u8 0, .int .u8 0, .int .u8 0, .int .u8 0, .int .u8 0, .int .u8 0, .int .u8 0, .int .u8 0, .int .u8 0, .int .u8 0, .int .u8 0, .int .u8 0, .int .u8 0, .int .u8 0, .int .u8 0, .int .u8 0, .int .u8 0, .int .u8 0, .int .u8 0, .int .u8 0, .int .u8 0, .int .u8 0, .int .u8 0, .int .u8 0, .int .u8 0, .int .u8 0, .int .u8 0, .int .u8 0, .int .u8 0, .int .u8 0, .int .u8 0, .int .u8 0, .int .i64 0, .int .u8 0, .int .u8 0, .int .u8 0, .int .u8 0, .int .u8 0, .int .u8 0, .int .u8 0, .int .u8 0, .int .u8 0, .int .u8 0, .int .u8 0, .int .u8 0, .int .u8 0, .int .u8 0, .int .u8 0, .int .u8 0, .int .u8 0, .int .u8 0, .int .u8 0, .int .u8 0, .int .u8 0, .int .u8 0, .int .u8 0, .int .u8 0, .int .u8 0, .int .u8 0, .int .u8 0, .int .u8 0, .int .u8 0, .int .u8 0, .int .u8 0, .int .u8 0] 36 (by kernel_rfl)) ?_
  rintro _ W3 ⟨rfl, hb3, ch3, sz3⟩
  have zz3 := ch3.size
  rw [← Mur.attC_zero] at hb3
  refine Wk.rPure 3 (some 9) (.int .i64 0) rfl rfl (by kernel_rfl) (by kernel_rfl) ?_
  refine Wk.rEnd 4 rfl ?_
  refine Wk.nxt ?_
  refine wp_seq ?_
  refine Wk.reg ?_
  refine Wk.rPure 0 (some 11) (.agg ((b8s k).toArray)) rfl rfl (by kernel_rfl) (Mur.loadAll 25 (.tmp 5) rfl _ Tryd.underlying25 rfl w.heap.size (by kernel_rfl) k 32 hk (by kernel_rfl) 25 (0, 0) (Wk.Chg.hp ch3 (Wk.Chg.hp ch2 hb1 trivial) trivial)) ?_
  refine Wk.rPure 1 (some 12) (.agg ((b8s r).toArray)) rfl rfl (by kernel_rfl) (Mur.loadAll 25 (.tmp 6) rfl _ Tryd.underlying25 rfl W1.heap.size (by kernel_rfl) r 32 hr (by kernel_rfl) 25 (0, 0) (Wk.Chg.hp ch3 hb2 trivial)) ?_
  refine Wk.rPure 2 (some 13) (.int .i64 n) rfl rfl (by kernel_rfl) (by kernel_rfl) ?_
  refine Wk.rPure 3 (some 14) (.agg ((Mur.attC k r n Mur.z32).toArray)) rfl rfl (by kernel_rfl) (Mur.run_built 36 _ rfl [(0, .agg ((b8s k).toArray)), (1, .agg ((b8s r).toArray)), (2, .int .i64 n)] (by kernel_rfl) _ (built3 hk hr)) ?_
  refine Wk.rEx 4 (some 10) _ rfl rfl (by kernel_rfl) (Wk.new_ex (.pointer (some ⟨W3.heap.size, 0, none⟩)) #[.int .u8 0, .int .u8 0, .int .u8 0, .int .u8 0, .int .u8 0, .int .u8 0, .int .u8 0, .int .u8 0, .int .u8 0, .int .u8 0, .int .u8 0, .int .u8 0, .int .u8 0, .int .u8 0, .int .u8 0, .int .u8 0, .int .u8 0, .int .u8 0, .int .u8 0, .int .u8 0, .int .u8 0, .int .u8 0, .int .u8 0, .int .u8 0, .int .u8 0, .int .u8 0, .int .u8 0, .int .u8 0, .int .u8 0, .int .u8 0, .int .u8 0, .int .u8 0, .int .u8 0, .int .u8 0, .int .u8 0, .int .u8 0, .int .u8 0, .int .u8 0, .int .u8 0, .int .u8 0, .int .u8 0, .int .u8 0, .int .u8 0, .int .u8 0, .int .u8 0, .int .u8 0, .int .u8 0, .int .u8 0, .int .u8 0, .int .u8 0, .int .u8 0, .int .u8 0, .int .u8 0, .int .u8 0, .int .u8 0, .int .u8 0, .int .u8 0, .int .u8 0, .int .u8 0, .int .u8 0, .int .u8 0, .int .u8 0, .int .u8 0, .int .u8 0, .int .i64 0, .int .u8 0, .int .u8 0, .int .u8 0, .int .u8 0, .int .u8 0, .int .u8 0, .int .u8 0, .int .u8 0, .int .u8 0, .int .u8 0, .int .u8 0, .int .u8 0, .int .u8 0, .int .u8 0, .int .u8 0, .int .u8 0, .int .u8 0, .int .u8 0, .int .u8 0, .int .u8 0, .int .u8 0, .int .u8 0, .int .u8 0, .int .u8 0, .int .u8 0, .int .u8 0, .int .u8 0, .int .u8 0, .int .u8 0, .int .u8 0, .int .u8 0, .int .u8 0] 36 (by kernel_rfl)) ?_
  rintro _ W4 ⟨rfl, hb4, ch4, sz4⟩
  have zz4 := ch4.size
  rw [← Mur.attC_zero] at hb4
  refine Wk.rExS 5 none _ rfl rfl (by kernel_rfl) (Mur.storeArr 36 (.tmp 10) (.tmp 14) rfl W3.heap.size (by kernel_rfl) (Mur.attC k r n Mur.z32).toArray 97 (Mur.attC_size hk hr rfl) Mur.attC_all (by kernel_rfl) (by kernel_rfl) 36 ((Mur.attC Mur.z32 Mur.z32 0 Mur.z32).toArray) hb4 (Mur.attC_size rfl rfl rfl)) ?_
  rintro W5 ⟨hb5, ch5⟩
  have zz5 := ch5.size
  refine Wk.rEnd 6 rfl ?_
  refine Wk.nxt ?_
  refine wp_seq ?_
  refine wp_seq ?_
  refine Wk.reg ?_
  refine Wk.rPure 0 (some 15) (.agg ((Mur.attC k r n Mur.z32).toArray)) rfl rfl (by kernel_rfl) (Mur.loadArr 36 (.tmp 10) rfl _ Tryd.underlying36 rfl W3.heap.size (by kernel_rfl) (Mur.attC k r n Mur.z32).toArray 97 (Mur.attC_size hk hr rfl) (by kernel_rfl) 36 (0, 0) hb5) ?_
  refine Wk.rCall 1 (some 16) 33 [.tmp 15] #[36] [.agg ((Mur.attC k r n Mur.z32).toArray)] rfl rfl (by kernel_rfl) rfl (by kernel_rfl) (by kernel_rfl) ?_
  refine (may_any k r Mur.z32 n hk hr rfl W5).mono ?_
  rw [decide_eq_true (hm : Mur.may n)]
  rintro _ W6 ⟨rfl, ch6⟩
  have zz6 := ch6.size
  refine ⟨_, rfl, ?_⟩
  refine Wk.rPure 2 (some 17) (.bool false) rfl rfl (by kernel_rfl) (by kernel_rfl) ?_
  refine Wk.rEnd 3 rfl ?_
  refine Wk.nxt ?_
  refine wp_cond_false (by kernel_rfl) ?_
  refine wp_skip ?_
  refine Wk.nxt ?_
  refine wp_seq ?_
  refine Wk.reg ?_
  refine Wk.rPure 0 (some 19) (.slice A m c) rfl rfl (by kernel_rfl) (by kernel_rfl) ?_
  refine Wk.rPure 1 (some 20) (.agg ((Mur.attC k r n Mur.z32).toArray)) rfl rfl (by kernel_rfl) (Mur.loadArr 36 (.tmp 10) rfl _ Tryd.underlying36 rfl W3.heap.size (by kernel_rfl) (Mur.attC k r n Mur.z32).toArray 97 (Mur.attC_size hk hr rfl) (by kernel_rfl) 36 (0, 0) (Wk.Chg.hp ch6 hb5 trivial)) ?_
  refine Wk.rCall 2 (some 21) 34 [.tmp 19, .tmp 20] #[22, 36] [.slice A m c, .agg ((Mur.attC k r n Mur.z32).toArray)] rfl rfl (by kernel_rfl) rfl (by kernel_rfl) (by kernel_rfl) ?_
  have kk1 : Wk.Chg [] w W1 := Wk.Chg.step ((Wk.Chg.refl _).more (by simp)) ch1 trivial
  have kk2 := Wk.Chg.step kk1 ch2 trivial
  have kk3 := Wk.Chg.step kk2 ch3 trivial
  have kk4 := Wk.Chg.step kk3 ch4 trivial
  have kk5 := Wk.Chg.step kk4 ch5 ⟨.inr (by omega), trivial⟩
  have kk6 := Wk.Chg.step kk5 ch6 trivial
  refine (tag_any s A m c k r Mur.z32 n hk hr rfl W6 (HV.out.below (Wk.Chg.below0 kk6)) (Mur.byt_chg HBY.out kk6 (fun g off e hl => trivial)) (by omega) HA.out (by omega)).mono ?_
  rintro _ W7 ⟨dd1, hd1, hdl1, rfl, ch7⟩
  have zz7 := ch7.size
  refine ⟨_, rfl, ?_⟩
  refine Wk.rPure 3 (some 22) (.pointer (some ⟨W3.heap.size, 65, none⟩)) rfl rfl (by kernel_rfl) (by kernel_rfl) ?_
  refine Wk.rExS 4 none _ rfl rfl (by kernel_rfl) (Mur.store_tag 25 (.tmp 22) (.tmp 21) rfl W3.heap.size (by kernel_rfl) dd1 hdl1 (by kernel_rfl) (by kernel_rfl) 36 k r Mur.z32 n hk hr rfl (Wk.Chg.hp ch7 (Wk.Chg.hp ch6 hb5 trivial) trivial)) ?_
  rintro W8 ⟨hb6, ch8⟩
  have zz8 := ch8.size
  refine Wk.rEnd 5 rfl ?_
  refine Wk.nxt ?_
  refine wp_seq ?_
  refine Wk.reg ?_
  refine Wk.rPure 0 (some 23) (.agg ((Mur.attC k r n dd1).toArray)) rfl rfl (by kernel_rfl) (Mur.loadArr 36 (.tmp 10) rfl _ Tryd.underlying36 rfl W3.heap.size (by kernel_rfl) (Mur.attC k r n dd1).toArray 97 (Mur.attC_size hk hr hdl1) (by kernel_rfl) 36 (0, 0) hb6) ?_
  refine Wk.rExS 1 none _ rfl rfl (by kernel_rfl) (Mur.storeArr 36 (.tmp 8) (.tmp 23) rfl W2.heap.size (by kernel_rfl) (Mur.attC k r n dd1).toArray 97 (Mur.attC_size hk hr hdl1) Mur.attC_all (by kernel_rfl) (by kernel_rfl) 36 ((Mur.attC Mur.z32 Mur.z32 0 Mur.z32).toArray) (Wk.Chg.hp ch8 (Wk.Chg.hp ch7 (Wk.Chg.hp ch6 (Wk.Chg.hp ch5 (Wk.Chg.hp ch4 hb3 trivial) ⟨by omega, trivial⟩) trivial) trivial) ⟨by omega, trivial⟩) (Mur.attC_size rfl rfl rfl)) ?_
  rintro W9 ⟨hb7, ch9⟩
  have zz9 := ch9.size
  refine Wk.rPure 2 (some 9) (.int .i64 0) rfl rfl (by kernel_rfl) (by kernel_rfl) ?_
  refine Wk.rEnd 3 rfl ?_
  refine Wk.nxt ?_
  refine wp_ret ?_
  have kk7 := Wk.Chg.step kk6 ch7 trivial
  have kk8 := Wk.Chg.step kk7 ch8 ⟨.inr (by omega), trivial⟩
  have kk9 := Wk.Chg.step kk8 ch9 ⟨.inr (by omega), trivial⟩
  refine Wk.ret (.tuple #[.agg (Mur.attC k r n dd1).toArray, .int .i64 0]) rfl (results_att rfl _ _ W2.heap.size (Mur.attC k r n dd1).toArray (0, 0) (.int .i64 0) (by kernel_rfl) hb7 (Mur.attC_size hk hr hdl1) (by kernel_rfl)) ?_
  exact ⟨_, hd1, hdl1, rfl, kk9⟩
theorem Make_no (A : Option Addr) (m c : Nat) (k r : List UInt8) (n : Int) (hk : k.length = 32) (hr : r.length = 32) (w : World) (hm : ¬ Mur.may n) : Calls Tryd.prog 18 #[.slice A m c, .agg (b8s k).toArray, .agg (b8s r).toArray, .int .i64 n] w fun e w' => e = .returned (.tuple #[.agg (attC Mur.z32 Mur.z32 0 Mur.z32).toArray, .int .i64 2]) ∧ Wk.Chg [] w w' := by
  refine calls_of_wp Tryd.func18 rfl ?_
  refine wp_seq ?_
  refine Wk.reg ?_
  refine Wk.rEx 0 (some 5) _ rfl rfl (by kernel_rfl) (Wk.new_ex (.pointer (some ⟨w.heap.size, 0, none⟩)) ((b8s k).toArray) 25 (by kernel_rfl)) ?_
  rintro _ W1 ⟨rfl, hb1, ch1, sz1⟩
  have zz1 := ch1.size
  refine Wk.rEx 1 (some 6) _ rfl rfl (by kernel_rfl) (Wk.new_ex (.pointer (some ⟨W1.heap.size, 0, none⟩)) ((b8s r).toArray) 25 (by kernel_rfl)) ?_
  rintro _ W2 ⟨rfl, hb2, ch2, sz2⟩
  have zz2 := ch2.size
  refine Wk.rEx 2 (some 8) _ rfl rfl (by kernel_rfl) (Wk.new_ex (.pointer (some ⟨W2.heap.size, 0, none⟩)) #[.int .u8 0, .int .u8 0, .int .u8 0, .int .u8 0, .int .u8 0, .int .u8 0, .int .u8 0, .int .u8 0, .int .u8 0, .int .u8 0, .int .u8 0, .int .u8 0, .int .u8 0, .int .u8 0, .int .u8 0, .int .u8 0, .int .u8 0, .int .u8 0, .int .u8 0, .int .u8 0, .int .u8 0, .int .u8 0, .int .u8 0, .int .u8 0, .int .u8 0, .int .u8 0, .int .u8 0, .int .u8 0, .int .u8 0, .int .u8 0, .int .u8 0, .int .u8 0, .int .u8 0, .int .u8 0, .int .u8 0, .int .u8 0, .int .u8 0, .int .u8 0, .int .u8 0, .int .u8 0, .int .u8 0, .int .u8 0, .int .u8 0, .int .u8 0, .int .u8 0, .int .u8 0, .int .u8 0, .int .u8 0, .int .u8 0, .int .u8 0, .int .u8 0, .int .u8 0, .int .u8 0, .int .u8 0, .int .u8 0, .int .u8 0, .int .u8 0, .int .u8 0, .int .u8 0, .int .u8 0, .int .u8 0, .int .u8 0, .int .u8 0, .int .u8 0, .int .i64 0, .int .u8 0, .int .u8 0, .int .u8 0, .int .u8 0, .int .u8 0, .int .u8 0, .int .u8 0, .int .u8 0, .int .u8 0, .int .u8 0, .int .u8 0, .int .u8 0, .int .u8 0, .int .u8 0, .int .u8 0, .int .u8 0, .int .u8 0, .int .u8 0, .int .u8 0, .int .u8 0, .int .u8 0, .int .u8 0, .int .u8 0, .int .u8 0, .int .u8 0, .int .u8 0, .int .u8 0, .int .u8 0, .int .u8 0, .int .u8 0, .int .u8 0, .int .u8 0] 36 (by kernel_rfl)) ?_
  rintro _ W3 ⟨rfl, hb3, ch3, sz3⟩
  have zz3 := ch3.size
  rw [← Mur.attC_zero] at hb3
  refine Wk.rPure 3 (some 9) (.int .i64 0) rfl rfl (by kernel_rfl) (by kernel_rfl) ?_
  refine Wk.rEnd 4 rfl ?_
  refine Wk.nxt ?_
  refine wp_seq ?_
  refine Wk.reg ?_
  refine Wk.rPure 0 (some 11) (.agg ((b8s k).toArray)) rfl rfl (by kernel_rfl) (Mur.loadAll 25 (.tmp 5) rfl _ Tryd.underlying25 rfl w.heap.size (by kernel_rfl) k 32 hk (by kernel_rfl) 25 (0, 0) (Wk.Chg.hp ch3 (Wk.Chg.hp ch2 hb1 trivial) trivial)) ?_
  refine Wk.rPure 1 (some 12) (.agg ((b8s r).toArray)) rfl rfl (by kernel_rfl) (Mur.loadAll 25 (.tmp 6) rfl _ Tryd.underlying25 rfl W1.heap.size (by kernel_rfl) r 32 hr (by kernel_rfl) 25 (0, 0) (Wk.Chg.hp ch3 hb2 trivial)) ?_
  refine Wk.rPure 2 (some 13) (.int .i64 n) rfl rfl (by kernel_rfl) (by kernel_rfl) ?_
  refine Wk.rPure 3 (some 14) (.agg ((Mur.attC k r n Mur.z32).toArray)) rfl rfl (by kernel_rfl) (Mur.run_built 36 _ rfl [(0, .agg ((b8s k).toArray)), (1, .agg ((b8s r).toArray)), (2, .int .i64 n)] (by kernel_rfl) _ (built3 hk hr)) ?_
  refine Wk.rEx 4 (some 10) _ rfl rfl (by kernel_rfl) (Wk.new_ex (.pointer (some ⟨W3.heap.size, 0, none⟩)) #[.int .u8 0, .int .u8 0, .int .u8 0, .int .u8 0, .int .u8 0, .int .u8 0, .int .u8 0, .int .u8 0, .int .u8 0, .int .u8 0, .int .u8 0, .int .u8 0, .int .u8 0, .int .u8 0, .int .u8 0, .int .u8 0, .int .u8 0, .int .u8 0, .int .u8 0, .int .u8 0, .int .u8 0, .int .u8 0, .int .u8 0, .int .u8 0, .int .u8 0, .int .u8 0, .int .u8 0, .int .u8 0, .int .u8 0, .int .u8 0, .int .u8 0, .int .u8 0, .int .u8 0, .int .u8 0, .int .u8 0, .int .u8 0, .int .u8 0, .int .u8 0, .int .u8 0, .int .u8 0, .int .u8 0, .int .u8 0, .int .u8 0, .int .u8 0, .int .u8 0, .int .u8 0, .int .u8 0, .int .u8 0, .int .u8 0, .int .u8 0, .int .u8 0, .int .u8 0, .int .u8 0, .int .u8 0, .int .u8 0, .int .u8 0, .int .u8 0, .int .u8 0, .int .u8 0, .int .u8 0, .int .u8 0, .int .u8 0, .int .u8 0, .int .u8 0, .int .i64 0, .int .u8 0, .int .u8 0, .int .u8 0, .int .u8 0, .int .u8 0, .int .u8 0, .int .u8 0, .int .u8 0, .int .u8 0, .int .u8 0, .int .u8 0, .int .u8 0, .int .u8 0, .int .u8 0, .int .u8 0, .int .u8 0, .int .u8 0, .int .u8 0, .int .u8 0, .int .u8 0, .int .u8 0, .int .u8 0, .int .u8 0, .int .u8 0, .int .u8 0, .int .u8 0, .int .u8 0, .int .u8 0, .int .u8 0, .int .u8 0, .int .u8 0, .int .u8 0] 36 (by kernel_rfl)) ?_
  rintro _ W4 ⟨rfl, hb4, ch4, sz4⟩
  have zz4 := ch4.size
  rw [← Mur.attC_zero] at hb4
  refine Wk.rExS 5 none _ rfl rfl (by kernel_rfl) (Mur.storeArr 36 (.tmp 10) (.tmp 14) rfl W3.heap.size (by kernel_rfl) (Mur.attC k r n Mur.z32).toArray 97 (Mur.attC_size hk hr rfl) Mur.attC_all (by kernel_rfl) (by kernel_rfl) 36 ((Mur.attC Mur.z32 Mur.z32 0 Mur.z32).toArray) hb4 (Mur.attC_size rfl rfl rfl)) ?_
  rintro W5 ⟨hb5, ch5⟩
  have zz5 := ch5.size
  refine Wk.rEnd 6 rfl ?_
  refine Wk.nxt ?_
  refine wp_seq ?_
  refine wp_seq ?_
  refine Wk.reg ?_
  refine Wk.rPure 0 (some 15) (.agg ((Mur.attC k r n Mur.z32).toArray)) rfl rfl (by kernel_rfl) (Mur.loadArr 36 (.tmp 10) rfl _ Tryd.underlying36 rfl W3.heap.size (by kernel_rfl) (Mur.attC k r n Mur.z32).toArray 97 (Mur.attC_size hk hr rfl) (by kernel_rfl) 36 (0, 0) hb5) ?_
  refine Wk.rCall 1 (some 16) 33 [.tmp 15] #[36] [.agg ((Mur.attC k r n Mur.z32).toArray)] rfl rfl (by kernel_rfl) rfl (by kernel_rfl) (by kernel_rfl) ?_
  refine (may_any k r Mur.z32 n hk hr rfl W5).mono ?_
  rw [decide_eq_false (hm : ¬ Mur.may n)]
  rintro _ W6 ⟨rfl, ch6⟩
  have zz6 := ch6.size
  refine ⟨_, rfl, ?_⟩
  refine Wk.rPure 2 (some 17) (.bool true) rfl rfl (by kernel_rfl) (by kernel_rfl) ?_
  refine Wk.rEnd 3 rfl ?_
  refine Wk.nxt ?_
  refine wp_cond_true (by kernel_rfl) ?_
  refine wp_seq ?_
  refine Wk.reg ?_
  refine Wk.rPure 0 (some 18) (.agg ((Mur.attC Mur.z32 Mur.z32 0 Mur.z32).toArray)) rfl rfl (by kernel_rfl) (by kernel_rfl) ?_
  refine Wk.rExS 1 none _ rfl rfl (by kernel_rfl) (Mur.storeArr 36 (.tmp 8) (.tmp 18) rfl W2.heap.size (by kernel_rfl) (Mur.attC Mur.z32 Mur.z32 0 Mur.z32).toArray 97 (Mur.attC_size rfl rfl rfl) Mur.attC_all (by kernel_rfl) (by kernel_rfl) 36 ((Mur.attC Mur.z32 Mur.z32 0 Mur.z32).toArray) (Wk.Chg.hp ch6 (Wk.Chg.hp ch5 (Wk.Chg.hp ch4 hb3 trivial) ⟨by omega, trivial⟩) trivial) (Mur.attC_size rfl rfl rfl)) ?_
  rintro W7 ⟨hb6, ch7⟩
  have zz7 := ch7.size
  refine Wk.rPure 2 (some 9) (.int .i64 2) rfl rfl (by kernel_rfl) (by kernel_rfl) ?_
  refine Wk.rEnd 3 rfl ?_
  refine Wk.nxt ?_
  refine wp_ret ?_
  refine Wk.thR ?_
  have kk1 : Wk.Chg [] w W1 := Wk.Chg.step ((Wk.Chg.refl _).more (by simp)) ch1 trivial
  have kk2 := Wk.Chg.step kk1 ch2 trivial
  have kk3 := Wk.Chg.step kk2 ch3 trivial
  have kk4 := Wk.Chg.step kk3 ch4 trivial
  have kk5 := Wk.Chg.step kk4 ch5 ⟨.inr (by omega), trivial⟩
  have kk6 := Wk.Chg.step kk5 ch6 trivial
  have kk7 := Wk.Chg.step kk6 ch7 ⟨.inr (by omega), trivial⟩
  refine Wk.ret (.tuple #[.agg (Mur.attC Mur.z32 Mur.z32 0 Mur.z32).toArray, .int .i64 2]) rfl (results_att rfl _ _ W2.heap.size (Mur.attC Mur.z32 Mur.z32 0 Mur.z32).toArray (0, 0) (.int .i64 2) (by kernel_rfl) hb6 (Mur.attC_size rfl rfl rfl) (by kernel_rfl)) ?_
  exact ⟨rfl, kk7⟩
theorem Right_any (s : List UInt8) (A : Option Addr) (m c : Nat) (k r t : List UInt8) (n : Int) (hk : k.length = 32) (hr : r.length = 32) (ht : t.length = 32) (w : World) (hv : ShaVars w) (hb : Byt w A m s) (hnc : m ≤ c) (ha : A = none → c = 0) (hn : m ≤ 140737488351232) : Calls Tryd.prog 20 #[.slice A m c, .agg (attC k r n t).toArray] w fun e w' => ∃ d, Hid (d = Mur.hmac s (Mur.body k r n)) ∧ e = .returned (.bool (decide (Mur.may n ∧ t = d))) ∧ Wk.Chg [] w w' := by
  have HV := Go.Lib.hid hv
  clear hv
  have HBY := Go.Lib.hid hb
  clear hb
  have HA := Go.Lib.hid ha
  clear ha
  refine calls_of_wp Tryd.func20 rfl ?_
  refine wp_seq ?_
  refine Wk.reg ?_
  refine Wk.rEx 0 (some 3) _ rfl rfl (by kernel_rfl) (Wk.new_ex (.pointer (some ⟨w.heap.size, 0, none⟩)) ((Mur.attC k r n t).toArray) 36 (by kernel_rfl)) ?_
  rintro _ W1 ⟨rfl, hb1, ch1, sz1⟩
  have zz1 := ch1.size
  refine Wk.rPure 1 (some 4) (.bool false) rfl rfl (by kernel_rfl) (by kernel_rfl) ?_
  refine Wk.rEnd 2 rfl ?_
  refine Wk.nxt ?_
  refine wp_seq ?_
  refine Wk.dReg ([]) (by kernel_rfl) ?_
  intro W2 ch2 sz2
  have zz2 := ch2.size
  have sS1 : Wk.Chg ([]) W2 W2 := (Wk.Chg.refl _).more (by simp)
  refine Wk.dVal 0 (some 5) (.agg ((Mur.attC k r n t).toArray)) rfl rfl (by kernel_rfl) (by kernel_rfl) (by kernel_rfl) (fun _ _ _ h => h) (by kernel_rfl) (fun w' hw' => (Mur.loadArr 36 (.tmp 3) rfl _ Tryd.underlying36 rfl w.heap.size (by kernel_rfl) (Mur.attC k r n t).toArray 97 (Mur.attC_size hk hr ht) (by kernel_rfl) 36 (0, 0) (Wk.Chg.hp hw' (Wk.Chg.hp ch2 hb1 trivial) trivial))) sS1 ?_
  refine Wk.dOp 1 (by kernel_rfl) ?_
  refine Wk.oCall (some 6) 33 [.tmp 5] #[36] [.agg ((Mur.attC k r n t).toArray)] rfl rfl (by kernel_rfl) rfl (by kernel_rfl) (by kernel_rfl) ?_
  by_cases hmay1 : Mur.may n
  · have hmay1u : 1 ≤ n ∧ n ≤ 5000 := hmay1
    refine (may_any k r t n hk hr ht W2).mono ?_
    rw [decide_eq_true (hmay1 : Mur.may n)]
    rintro _ W3 ⟨rfl, ch3⟩
    have zz3 := ch3.size
    have sS2 := Wk.Chg.step sS1 ch3 trivial
    refine ⟨_, rfl, sS2, ?_⟩
    refine Wk.dVal 2 (some 7) (.bool true) rfl rfl (by kernel_rfl) (by kernel_rfl) (by kernel_rfl) (fun _ _ _ h => h) (by kernel_rfl) (fun w' hw' => by kernel_rfl) sS2 ?_
    refine Wk.dVal 3 (some 8) (.pointer (some ⟨w.heap.size, 65, none⟩)) rfl rfl (by kernel_rfl) (by kernel_rfl) (by kernel_rfl) (fun _ _ _ h => h) (by kernel_rfl) (fun w' hw' => by kernel_rfl) sS2 ?_
    refine Wk.dVal 4 (some 9) (.agg ((b8s t).toArray)) rfl rfl (by kernel_rfl) (by kernel_rfl) (by kernel_rfl) (fun _ _ _ h => h) (by kernel_rfl) (fun w' hw' => (Wk.loadR 25 (.tmp 8) rfl _ Tryd.underlying25 rfl w.heap.size 65 (by kernel_rfl) (b8s t) (by rw [Mur.b8s_length, ht]; kernel_rfl) (Mur.att_tag hk hr (Wk.Chg.hp hw' (Wk.Chg.hp ch2 hb1 trivial) trivial)))) sS2 ?_
    refine Wk.dVal 5 (some 10) (.slice A m c) rfl rfl (by kernel_rfl) (by kernel_rfl) (by kernel_rfl) (fun _ _ _ h => h) (by kernel_rfl) (fun w' hw' => by kernel_rfl) sS2 ?_
    refine Wk.dVal 6 (some 11) (.agg ((Mur.attC k r n t).toArray)) rfl rfl (by kernel_rfl) (by kernel_rfl) (by kernel_rfl) (fun _ _ _ h => h) (by kernel_rfl) (fun w' hw' => (Mur.loadArr 36 (.tmp 3) rfl _ Tryd.underlying36 rfl w.heap.size (by kernel_rfl) (Mur.attC k r n t).toArray 97 (Mur.attC_size hk hr ht) (by kernel_rfl) 36 (0, 0) (Wk.Chg.hp hw' (Wk.Chg.hp ch2 hb1 trivial) trivial))) sS2 ?_
    refine Wk.dOp 7 (by kernel_rfl) ?_
    refine Wk.oCall (some 12) 34 [.tmp 10, .tmp 11] #[22, 36] [.slice A m c, .agg ((Mur.attC k r n t).toArray)] rfl rfl (by kernel_rfl) rfl (by kernel_rfl) (by kernel_rfl) ?_
    have kk1 : Wk.Chg [] w W1 := Wk.Chg.step ((Wk.Chg.refl _).more (by simp)) ch1 trivial
    have kk2 := Wk.Chg.step kk1 ch2 trivial
    have kk3 := Wk.Chg.step kk2 ch3 trivial
    refine (tag_any s A m c k r t n hk hr ht W3 (HV.out.below (Wk.Chg.below0 kk3)) (Mur.byt_chg HBY.out kk3 (fun g off e hl => trivial)) (by omega) HA.out (by omega)).mono ?_
    rintro _ W4 ⟨dd1, hd1, hdl1, rfl, ch4⟩
    have zz4 := ch4.size
    have sS3 := Wk.Chg.step sS2 ch4 trivial
    refine ⟨_, rfl, sS3, ?_⟩
    by_cases hteq1 : t = dd1
    · refine Wk.dVal 8 (some 13) (.bool true) rfl rfl (by kernel_rfl) (by kernel_rfl) (by kernel_rfl) (fun _ _ _ h => h) (by kernel_rfl) (fun w' hw' => (Mur.run_eql_yes digT t dd1 ht hdl1 hteq1 w' (.tmp 9) (.tmp 12) 25 rfl (by kernel_rfl) (by kernel_rfl))) sS3 ?_
      refine Wk.dVal 9 (some 14) (.bool true) rfl rfl (by kernel_rfl) (by kernel_rfl) (by kernel_rfl) (fun _ _ _ h => h) (by kernel_rfl) (fun w' hw' => by kernel_rfl) sS3 ?_
      refine Wk.dVal 10 (some 4) (.bool true) rfl rfl (by kernel_rfl) (by kernel_rfl) (by kernel_rfl) (fun _ _ _ h => h) (by kernel_rfl) (fun w' hw' => by kernel_rfl) sS3 ?_
      refine Wk.dEnd (by kernel_rfl) ?_
      refine Wk.nxt ?_
      refine wp_ret ?_
      have kk4 := Wk.Chg.step kk3 ch4 trivial
      refine Wk.ret (.bool true) rfl (by kernel_rfl) ?_
      exact ⟨_, hd1, by rw [decide_eq_true ⟨hmay1, hteq1⟩], kk4⟩
    · refine Wk.dVal 8 (some 13) (.bool false) rfl rfl (by kernel_rfl) (by kernel_rfl) (by kernel_rfl) (fun _ _ _ h => h) (by kernel_rfl) (fun w' hw' => (Mur.run_eql_no digT t dd1 ht hdl1 hteq1 w' (.tmp 9) (.tmp 12) 25 rfl (by kernel_rfl) (by kernel_rfl))) sS3 ?_
      refine Wk.dVal 9 (some 14) (.bool false) rfl rfl (by kernel_rfl) (by kernel_rfl) (by kernel_rfl) (fun _ _ _ h => h) (by kernel_rfl) (fun w' hw' => by kernel_rfl) sS3 ?_
      refine Wk.dVal 10 (some 4) (.bool false) rfl rfl (by kernel_rfl) (by kernel_rfl) (by kernel_rfl) (fun _ _ _ h => h) (by kernel_rfl) (fun w' hw' => by kernel_rfl) sS3 ?_
      refine Wk.dEnd (by kernel_rfl) ?_
      refine Wk.nxt ?_
      refine wp_ret ?_
      have kk5 := Wk.Chg.step kk3 ch4 trivial
      refine Wk.ret (.bool false) rfl (by kernel_rfl) ?_
      exact ⟨_, hd1, by rw [decide_eq_false (fun q => hteq1 q.2)], kk5⟩
  · have hmay1u : ¬ (1 ≤ n ∧ n ≤ 5000) := hmay1
    refine (may_any k r t n hk hr ht W2).mono ?_
    rw [decide_eq_false (hmay1 : ¬ Mur.may n)]
    rintro _ W3 ⟨rfl, ch3⟩
    have zz5 := ch3.size
    have sS4 := Wk.Chg.step sS1 ch3 trivial
    refine ⟨_, rfl, sS4, ?_⟩
    refine Wk.dVal 2 (some 7) (.bool false) rfl rfl (by kernel_rfl) (by kernel_rfl) (by kernel_rfl) (fun _ _ _ h => h) (by kernel_rfl) (fun w' hw' => by kernel_rfl) sS4 ?_
    refine Wk.dPass 3 (some 8) rfl rfl (by kernel_rfl) (by kernel_rfl) (by kernel_rfl) (fun _ _ _ h => h) (by kernel_rfl) sS4 ?_
    refine Wk.dPass 4 (some 9) rfl rfl (by kernel_rfl) (by kernel_rfl) (by kernel_rfl) (fun _ _ _ h => h) (by kernel_rfl) sS4 ?_
    refine Wk.dPass 5 (some 10) rfl rfl (by kernel_rfl) (by kernel_rfl) (by kernel_rfl) (fun _ _ _ h => h) (by kernel_rfl) sS4 ?_
    refine Wk.dPass 6 (some 11) rfl rfl (by kernel_rfl) (by kernel_rfl) (by kernel_rfl) (fun _ _ _ h => h) (by kernel_rfl) sS4 ?_
    refine Wk.dPass 7 (some 12) rfl rfl (by kernel_rfl) (by kernel_rfl) (by kernel_rfl) (fun _ _ _ h => h) (by kernel_rfl) sS4 ?_
    refine Wk.dPass 8 (some 13) rfl rfl (by kernel_rfl) (by kernel_rfl) (by kernel_rfl) (fun _ _ _ h => h) (by kernel_rfl) sS4 ?_
    refine Wk.dVal 9 (some 14) (.bool false) rfl rfl (by kernel_rfl) (by kernel_rfl) (by kernel_rfl) (fun _ _ _ h => h) (by kernel_rfl) (fun w' hw' => by kernel_rfl) sS4 ?_
    refine Wk.dVal 10 (some 4) (.bool false) rfl rfl (by kernel_rfl) (by kernel_rfl) (by kernel_rfl) (fun _ _ _ h => h) (by kernel_rfl) (fun w' hw' => by kernel_rfl) sS4 ?_
    refine Wk.dEnd (by kernel_rfl) ?_
    refine Wk.nxt ?_
    refine wp_ret ?_
    have kk6 : Wk.Chg [] w W1 := Wk.Chg.step ((Wk.Chg.refl _).more (by simp)) ch1 trivial
    have kk7 := Wk.Chg.step kk6 ch2 trivial
    have kk8 := Wk.Chg.step kk7 ch3 trivial
    refine Wk.ret (.bool false) rfl (by kernel_rfl) ?_
    exact ⟨_, Go.Lib.hid rfl, by rw [decide_eq_false (fun q => hmay1 q.1)], kk8⟩
end Go.Proofs.YtljfjjofhclhiaaDoor
