/- DiskNone, walked. -/
import Derived.Test.YtddabjlhidokaaaDkK
import Derived.Test.YtddabjlhidokaaaDkTwo
import Derived.Test.YtddabjlhidokaaaDkD
namespace Go.Proofs.Ytddabjlhidokaaa
open Go.RowKit
open Mur (Fil Dk Dsk DskF Byt b8s foot hasF fE)
set_option maxRecDepth 100000
set_option maxHeartbeats 4000000
theorem none_any (kd f k0 k1 : Int) (B : Option Addr) (mb cb : Nat) (bs : List UInt8) (w : World) (hb : Byt w B mb bs) (hbn : B = none → cb = 0) : Calls Try.prog 7 #[.agg #[.int .i64 kd, .int .i64 f, .slice B mb cb, .int .i64 k0, .int .i64 k1]] w fun e w' => e = .returned (.bool true) ∧ Below w.heap.size w w' := by
  refine calls_of_wp Try.func7 rfl ?_
  refine wp_seq ?_
  refine Wk.reg ?_
  refine Wk.rEx 0 (some 1) _ rfl rfl (by kernel_rfl) (Wk.new_ex (.pointer (some ⟨w.heap.size, 0, none⟩)) #[.int .i64 kd, .int .i64 f, .slice B mb cb, .int .i64 k0, .int .i64 k1] 29 (by kernel_rfl)) ?_
  rintro _ W1 ⟨rfl, hb1, ch1, sz1⟩
  have zz1 := ch1.size
  refine Wk.rPure 1 (some 2) (.bool false) rfl rfl (by kernel_rfl) (by kernel_rfl) ?_
  refine Wk.rEnd 2 rfl ?_
  refine Wk.nxt ?_
  refine wp_seq ?_
  refine wp_seq ?_
  refine Wk.reg ?_
  refine Wk.rPure 0 (some 5) (.pointer (some ⟨w.heap.size, 2, none⟩)) rfl rfl (by kernel_rfl) (by kernel_rfl) ?_
  refine Wk.rPure 1 (some 6) (.slice B mb cb) rfl rfl (by kernel_rfl) (Wk.load1 26 (.tmp 5) rfl (by kernel_rfl) ⟨w.heap.size, 2, none⟩ (by kernel_rfl) (.slice B mb cb) ((cell_of_row _ _ 2 _ _ _ hb1).trans rfl)) ?_
  refine Wk.rPure 2 (some 7) (.int .i64 ((mb : Nat) : Int)) rfl rfl (by kernel_rfl) (by kernel_rfl) ?_
  by_cases hx1 : ((mb : Nat) : Int) > (1000 : Int)
  · refine Wk.rPure 3 (some 8) (.bool true) rfl rfl (by kernel_rfl) (Wk.boolT (b := decide (((mb : Nat) : Int) > (1000 : Int))) (decide_eq_true (by first | exact hx1 | omega)) (by kernel_rfl)) ?_
    refine Wk.rEnd 4 rfl ?_
    refine Wk.nxt ?_
    refine wp_cond_true (by kernel_rfl) ?_
    refine wp_seq ?_
    refine Wk.reg ?_
    refine Wk.rCall 0 (some 9) 9 [] #[] [] rfl rfl (by kernel_rfl) rfl (by kernel_rfl) (by kernel_rfl) ?_
    refine (known_any W1).mono ?_
    rintro _ W2 ⟨rfl, hB1⟩
    have ch2 := Wk.Chg.ofBelow hB1
    have zz2 := ch2.size
    refine ⟨_, rfl, ?_⟩
    refine Wk.rPure 1 (some 2) (.bool true) rfl rfl (by kernel_rfl) (by kernel_rfl) ?_
    refine Wk.rEnd 2 rfl ?_
    refine Wk.nxt ?_
    refine wp_ret ?_
    refine Wk.thR ?_
    have kk1 : Wk.Chg [] w W1 := Wk.Chg.step ((Wk.Chg.refl _).more (by simp)) ch1 trivial
    have kk2 := Wk.Chg.step kk1 ch2 trivial
    refine Wk.ret (.bool true) rfl (by kernel_rfl) ?_
    exact ⟨rfl, Wk.Chg.below0 kk2⟩
  · refine Wk.rPure 3 (some 8) (.bool false) rfl rfl (by kernel_rfl) (Wk.boolF (b := decide (((mb : Nat) : Int) > (1000 : Int))) (decide_eq_false (by first | exact hx1 | omega)) (by kernel_rfl)) ?_
    refine Wk.rEnd 4 rfl ?_
    refine Wk.nxt ?_
    refine wp_cond_false (by kernel_rfl) ?_
    refine wp_skip ?_
    refine Wk.nxt ?_
    refine wp_seq ?_
    refine Wk.reg ?_
    refine Wk.rPure 0 (some 3) (.pointer none) rfl rfl (by kernel_rfl) (by kernel_rfl) ?_
    refine Wk.rEnd 1 rfl ?_
    refine Wk.nxt ?_
    refine wp_seq ?_
    refine Wk.reg ?_
    refine Wk.rEx 0 (some 4) _ rfl rfl (by kernel_rfl) (Wk.new_ex (.pointer (some ⟨W1.heap.size, 0, none⟩)) #[.slice none 0 0, .int .i64 0, .slice none 0 0, .int .i64 0] 51 (by kernel_rfl)) ?_
    rintro _ W3 ⟨rfl, hb2, ch3, sz2⟩
    have zz3 := ch3.size
    refine Wk.rEnd 1 rfl ?_
    refine Wk.nxt ?_
    refine wp_seq ?_
    refine Wk.reg ?_
    have hDz := Mur.dsk_zero (e := 5) hb2
    have hMz := Mur.DskF.mem hDz
    refine Wk.rPure 0 (some 10) (.pointer none) rfl rfl (by kernel_rfl) (by kernel_rfl) ?_
    refine Wk.rPure 1 (some 11) (.pointer (some ⟨w.heap.size, 3, none⟩)) rfl rfl (by kernel_rfl) (by kernel_rfl) ?_
    refine Wk.rPure 2 (some 12) (.agg #[.int .i64 k0, .int .i64 k1]) rfl rfl (by kernel_rfl) (Wk.loadR 27 (.tmp 11) rfl _ Try.underlying27 rfl w.heap.size 3 (by kernel_rfl) ([.int .i64 k0, .int .i64 k1]) (by kernel_rfl) (Wk.range_sub 3 [.int .i64 k0, .int .i64 k1] (Wk.Chg.hp ch3 hb1 trivial) rfl)) ?_
    refine Wk.rCall 3 (some 13) 15 [.tmp 10, .tmp 12] #[23, 27] [.pointer none, .agg #[.int .i64 k0, .int .i64 k1]] rfl rfl (by kernel_rfl) rfl (by kernel_rfl) (by kernel_rfl) ?_
    refine (Crash_nil k0 k1 W3).mono ?_
    rintro _ W4 ⟨rfl, ch4⟩
    have zz4 := ch4.size
    refine ⟨_, rfl, ?_⟩
    refine Wk.rEnd 4 rfl ?_
    refine Wk.nxt ?_
    refine wp_seq ?_
    refine Wk.dReg ([W1.heap.size]) (by kernel_rfl) ?_
    intro W5 ch5 sz3
    have zz5 := ch5.size
    have sS1 : Wk.Chg ([W1.heap.size]) W5 W5 := (Wk.Chg.refl _).more (by simp)
    refine Wk.dVal 0 (some 14) (.pointer none) rfl rfl (by kernel_rfl) (by kernel_rfl) (by kernel_rfl) (fun _ _ _ h => h) (by kernel_rfl) (fun w' hw' => by kernel_rfl) sS1 ?_
    refine Wk.dVal 1 (some 15) (.pointer (some ⟨w.heap.size, 1, none⟩)) rfl rfl (by kernel_rfl) (by kernel_rfl) (by kernel_rfl) (fun _ _ _ h => h) (by kernel_rfl) (fun w' hw' => by kernel_rfl) sS1 ?_
    refine Wk.dVal 2 (some 16) (.int .i64 f) rfl rfl (by kernel_rfl) (by kernel_rfl) (by kernel_rfl) (fun _ _ _ h => h) (by kernel_rfl) (fun w' hw' => (Wk.load1 3 (.tmp 15) rfl (by kernel_rfl) ⟨w.heap.size, 1, none⟩ (by kernel_rfl) (.int .i64 f) ((cell_of_row _ _ 1 _ _ _ (Wk.Chg.hp hw' (Wk.Chg.hp ch5 (Wk.Chg.hp ch4 (Wk.Chg.hp ch3 hb1 trivial) trivial) trivial) (Mur.off_iff.2 (fun t ht => by have := hMz t ht; omega)))).trans rfl))) sS1 ?_
    refine Wk.dVal 3 (some 17) (.pointer (some ⟨w.heap.size, 2, none⟩)) rfl rfl (by kernel_rfl) (by kernel_rfl) (by kernel_rfl) (fun _ _ _ h => h) (by kernel_rfl) (fun w' hw' => by kernel_rfl) sS1 ?_
    refine Wk.dVal 4 (some 18) (.slice B mb cb) rfl rfl (by kernel_rfl) (by kernel_rfl) (by kernel_rfl) (fun _ _ _ h => h) (by kernel_rfl) (fun w' hw' => (Wk.load1 26 (.tmp 17) rfl (by kernel_rfl) ⟨w.heap.size, 2, none⟩ (by kernel_rfl) (.slice B mb cb) ((cell_of_row _ _ 2 _ _ _ (Wk.Chg.hp hw' (Wk.Chg.hp ch5 (Wk.Chg.hp ch4 (Wk.Chg.hp ch3 hb1 trivial) trivial) trivial) (Mur.off_iff.2 (fun t ht => by have := hMz t ht; omega)))).trans rfl))) sS1 ?_
    refine Wk.dOp 5 (by kernel_rfl) ?_
    refine Wk.oCall (some 19) 10 [.tmp 14, .tmp 16, .tmp 18] #[23, 3, 26] [.pointer none, .int .i64 f, .slice B mb cb] rfl rfl (by kernel_rfl) rfl (by kernel_rfl) (by kernel_rfl) ?_
    refine (Append_nil f B mb cb W5).mono ?_
    rintro _ _ ⟨rfl, rfl⟩
    refine ⟨_, rfl, sS1, ?_⟩
    refine Wk.dVal 6 (some 20) (.bool true) rfl rfl (by kernel_rfl) (by kernel_rfl) (by kernel_rfl) (fun _ _ _ h => h) (by kernel_rfl) (fun w' hw' => (Wk.boolT (b := ((1 : Int) == (1 : Int))) (beq_iff_eq.2 (by decide)) (by kernel_rfl))) sS1 ?_
    refine Wk.dVal 7 (some 21) (.bool true) rfl rfl (by kernel_rfl) (by kernel_rfl) (by kernel_rfl) (fun _ _ _ h => h) (by kernel_rfl) (fun w' hw' => by kernel_rfl) sS1 ?_
    refine Wk.dVal 8 (some 22) (.pointer none) rfl rfl (by kernel_rfl) (by kernel_rfl) (by kernel_rfl) (fun _ _ _ h => h) (by kernel_rfl) (fun w' hw' => by kernel_rfl) sS1 ?_
    refine Wk.dVal 9 (some 23) (.pointer (some ⟨w.heap.size, 1, none⟩)) rfl rfl (by kernel_rfl) (by kernel_rfl) (by kernel_rfl) (fun _ _ _ h => h) (by kernel_rfl) (fun w' hw' => by kernel_rfl) sS1 ?_
    refine Wk.dVal 10 (some 24) (.int .i64 f) rfl rfl (by kernel_rfl) (by kernel_rfl) (by kernel_rfl) (fun _ _ _ h => h) (by kernel_rfl) (fun w' hw' => (Wk.load1 3 (.tmp 23) rfl (by kernel_rfl) ⟨w.heap.size, 1, none⟩ (by kernel_rfl) (.int .i64 f) ((cell_of_row _ _ 1 _ _ _ (Wk.Chg.hp hw' (Wk.Chg.hp ch5 (Wk.Chg.hp ch4 (Wk.Chg.hp ch3 hb1 trivial) trivial) trivial) (Mur.off_iff.2 (fun t ht => by have := hMz t ht; omega)))).trans rfl))) sS1 ?_
    refine Wk.dOp 11 (by kernel_rfl) ?_
    refine Wk.oCall (some 25) 11 [.tmp 22, .tmp 24] #[23, 3] [.pointer none, .int .i64 f] rfl rfl (by kernel_rfl) rfl (by kernel_rfl) (by kernel_rfl) ?_
    refine (Sync_nil f W5).mono ?_
    rintro _ _ ⟨rfl, rfl⟩
    refine ⟨_, rfl, sS1, ?_⟩
    refine Wk.dVal 12 (some 26) (.bool true) rfl rfl (by kernel_rfl) (by kernel_rfl) (by kernel_rfl) (fun _ _ _ h => h) (by kernel_rfl) (fun w' hw' => (Wk.boolT (b := ((1 : Int) == (1 : Int))) (beq_iff_eq.2 (by decide)) (by kernel_rfl))) sS1 ?_
    refine Wk.dVal 13 (some 27) (.bool true) rfl rfl (by kernel_rfl) (by kernel_rfl) (by kernel_rfl) (fun _ _ _ h => h) (by kernel_rfl) (fun w' hw' => by kernel_rfl) sS1 ?_
    refine Wk.dVal 14 (some 28) (.bool true) rfl rfl (by kernel_rfl) (by kernel_rfl) (by kernel_rfl) (fun _ _ _ h => h) (by kernel_rfl) (fun w' hw' => by kernel_rfl) sS1 ?_
    refine Wk.dVal 15 (some 29) (.pointer none) rfl rfl (by kernel_rfl) (by kernel_rfl) (by kernel_rfl) (fun _ _ _ h => h) (by kernel_rfl) (fun w' hw' => by kernel_rfl) sS1 ?_
    refine Wk.dVal 16 (some 30) (.pointer (some ⟨w.heap.size, 1, none⟩)) rfl rfl (by kernel_rfl) (by kernel_rfl) (by kernel_rfl) (fun _ _ _ h => h) (by kernel_rfl) (fun w' hw' => by kernel_rfl) sS1 ?_
    refine Wk.dVal 17 (some 31) (.int .i64 f) rfl rfl (by kernel_rfl) (by kernel_rfl) (by kernel_rfl) (fun _ _ _ h => h) (by kernel_rfl) (fun w' hw' => (Wk.load1 3 (.tmp 30) rfl (by kernel_rfl) ⟨w.heap.size, 1, none⟩ (by kernel_rfl) (.int .i64 f) ((cell_of_row _ _ 1 _ _ _ (Wk.Chg.hp hw' (Wk.Chg.hp ch5 (Wk.Chg.hp ch4 (Wk.Chg.hp ch3 hb1 trivial) trivial) trivial) (Mur.off_iff.2 (fun t ht => by have := hMz t ht; omega)))).trans rfl))) sS1 ?_
    refine Wk.dOp 18 (by kernel_rfl) ?_
    refine Wk.oCall (some 32) 12 [.tmp 29, .tmp 31] #[23, 3] [.pointer none, .int .i64 f] rfl rfl (by kernel_rfl) rfl (by kernel_rfl) (by kernel_rfl) ?_
    refine (Clear_nil f W5).mono ?_
    rintro _ _ ⟨rfl, rfl⟩
    refine ⟨_, rfl, sS1, ?_⟩
    refine Wk.dVal 19 (some 33) (.bool true) rfl rfl (by kernel_rfl) (by kernel_rfl) (by kernel_rfl) (fun _ _ _ h => h) (by kernel_rfl) (fun w' hw' => (Wk.boolT (b := ((1 : Int) == (1 : Int))) (beq_iff_eq.2 (by decide)) (by kernel_rfl))) sS1 ?_
    refine Wk.dVal 20 (some 34) (.bool true) rfl rfl (by kernel_rfl) (by kernel_rfl) (by kernel_rfl) (fun _ _ _ h => h) (by kernel_rfl) (fun w' hw' => by kernel_rfl) sS1 ?_
    refine Wk.dVal 21 (some 35) (.bool true) rfl rfl (by kernel_rfl) (by kernel_rfl) (by kernel_rfl) (fun _ _ _ h => h) (by kernel_rfl) (fun w' hw' => by kernel_rfl) sS1 ?_
    refine Wk.dVal 22 (some 36) (.pointer none) rfl rfl (by kernel_rfl) (by kernel_rfl) (by kernel_rfl) (fun _ _ _ h => h) (by kernel_rfl) (fun w' hw' => by kernel_rfl) sS1 ?_
    refine Wk.dVal 23 (some 37) (.pointer (some ⟨w.heap.size, 1, none⟩)) rfl rfl (by kernel_rfl) (by kernel_rfl) (by kernel_rfl) (fun _ _ _ h => h) (by kernel_rfl) (fun w' hw' => by kernel_rfl) sS1 ?_
    refine Wk.dVal 24 (some 38) (.int .i64 f) rfl rfl (by kernel_rfl) (by kernel_rfl) (by kernel_rfl) (fun _ _ _ h => h) (by kernel_rfl) (fun w' hw' => (Wk.load1 3 (.tmp 37) rfl (by kernel_rfl) ⟨w.heap.size, 1, none⟩ (by kernel_rfl) (.int .i64 f) ((cell_of_row _ _ 1 _ _ _ (Wk.Chg.hp hw' (Wk.Chg.hp ch5 (Wk.Chg.hp ch4 (Wk.Chg.hp ch3 hb1 trivial) trivial) trivial) (Mur.off_iff.2 (fun t ht => by have := hMz t ht; omega)))).trans rfl))) sS1 ?_
    refine Wk.dOp 25 (by kernel_rfl) ?_
    refine Wk.oCall (some 39) 13 [.tmp 36, .tmp 38] #[23, 3] [.pointer none, .int .i64 f] rfl rfl (by kernel_rfl) rfl (by kernel_rfl) (by kernel_rfl) ?_
    refine (Bytes_nil f W5).mono ?_
    rintro _ _ ⟨rfl, rfl⟩
    refine ⟨_, rfl, sS1, ?_⟩
    refine Wk.dVal 26 (some 40) (.int .i64 0) rfl rfl (by kernel_rfl) (by kernel_rfl) (by kernel_rfl) (fun _ _ _ h => h) (by kernel_rfl) (fun w' hw' => by kernel_rfl) sS1 ?_
    refine Wk.dVal 27 (some 41) (.bool true) rfl rfl (by kernel_rfl) (by kernel_rfl) (by kernel_rfl) (fun _ _ _ h => h) (by kernel_rfl) (fun w' hw' => (Wk.boolT (b := ((0 : Int) == (0 : Int))) (beq_iff_eq.2 (by decide)) (by kernel_rfl))) sS1 ?_
    refine Wk.dVal 28 (some 42) (.bool true) rfl rfl (by kernel_rfl) (by kernel_rfl) (by kernel_rfl) (fun _ _ _ h => h) (by kernel_rfl) (fun w' hw' => by kernel_rfl) sS1 ?_
    refine Wk.dVal 29 (some 43) (.bool true) rfl rfl (by kernel_rfl) (by kernel_rfl) (by kernel_rfl) (fun _ _ _ h => h) (by kernel_rfl) (fun w' hw' => by kernel_rfl) sS1 ?_
    refine Wk.dVal 30 (some 44) (.pointer none) rfl rfl (by kernel_rfl) (by kernel_rfl) (by kernel_rfl) (fun _ _ _ h => h) (by kernel_rfl) (fun w' hw' => by kernel_rfl) sS1 ?_
    refine Wk.dVal 31 (some 45) (.pointer (some ⟨w.heap.size, 1, none⟩)) rfl rfl (by kernel_rfl) (by kernel_rfl) (by kernel_rfl) (fun _ _ _ h => h) (by kernel_rfl) (fun w' hw' => by kernel_rfl) sS1 ?_
    refine Wk.dVal 32 (some 46) (.int .i64 f) rfl rfl (by kernel_rfl) (by kernel_rfl) (by kernel_rfl) (fun _ _ _ h => h) (by kernel_rfl) (fun w' hw' => (Wk.load1 3 (.tmp 45) rfl (by kernel_rfl) ⟨w.heap.size, 1, none⟩ (by kernel_rfl) (.int .i64 f) ((cell_of_row _ _ 1 _ _ _ (Wk.Chg.hp hw' (Wk.Chg.hp ch5 (Wk.Chg.hp ch4 (Wk.Chg.hp ch3 hb1 trivial) trivial) trivial) (Mur.off_iff.2 (fun t ht => by have := hMz t ht; omega)))).trans rfl))) sS1 ?_
    refine Wk.dOp 33 (by kernel_rfl) ?_
    refine Wk.oCall (some 47) 14 [.tmp 44, .tmp 46] #[23, 3] [.pointer none, .int .i64 f] rfl rfl (by kernel_rfl) rfl (by kernel_rfl) (by kernel_rfl) ?_
    refine (Synced_nil f W5).mono ?_
    rintro _ _ ⟨rfl, rfl⟩
    refine ⟨_, rfl, sS1, ?_⟩
    refine Wk.dVal 34 (some 48) (.bool true) rfl rfl (by kernel_rfl) (by kernel_rfl) (by kernel_rfl) (fun _ _ _ h => h) (by kernel_rfl) (fun w' hw' => (Wk.boolT (b := ((0 : Int) == (0 : Int))) (beq_iff_eq.2 (by decide)) (by kernel_rfl))) sS1 ?_
    refine Wk.dVal 35 (some 49) (.bool true) rfl rfl (by kernel_rfl) (by kernel_rfl) (by kernel_rfl) (fun _ _ _ h => h) (by kernel_rfl) (fun w' hw' => by kernel_rfl) sS1 ?_
    refine Wk.dVal 36 (some 50) (.bool true) rfl rfl (by kernel_rfl) (by kernel_rfl) (by kernel_rfl) (fun _ _ _ h => h) (by kernel_rfl) (fun w' hw' => by kernel_rfl) sS1 ?_
    refine Wk.dVal 37 (some 51) (.pointer none) rfl rfl (by kernel_rfl) (by kernel_rfl) (by kernel_rfl) (fun _ _ _ h => h) (by kernel_rfl) (fun w' hw' => by kernel_rfl) sS1 ?_
    refine Wk.dOp 38 (by kernel_rfl) ?_
    refine Wk.oCall (some 52) 19 [.tmp 51] #[23] [.pointer none] rfl rfl (by kernel_rfl) rfl (by kernel_rfl) (by kernel_rfl) ?_
    refine (Copy_nil W5).mono ?_
    rintro _ _ ⟨rfl, rfl⟩
    refine ⟨_, rfl, sS1, ?_⟩
    refine Wk.dVal 39 (some 53) (.bool true) rfl rfl (by kernel_rfl) (by kernel_rfl) (by kernel_rfl) (fun _ _ _ h => h) (by kernel_rfl) (fun w' hw' => by kernel_rfl) sS1 ?_
    refine Wk.dVal 40 (some 54) (.bool true) rfl rfl (by kernel_rfl) (by kernel_rfl) (by kernel_rfl) (fun _ _ _ h => h) (by kernel_rfl) (fun w' hw' => by kernel_rfl) sS1 ?_
    refine Wk.dVal 41 (some 55) (.bool true) rfl rfl (by kernel_rfl) (by kernel_rfl) (by kernel_rfl) (fun _ _ _ h => h) (by kernel_rfl) (fun w' hw' => by kernel_rfl) sS1 ?_
    refine Wk.dVal 42 (some 56) (.pointer (some ⟨w.heap.size, 2, none⟩)) rfl rfl (by kernel_rfl) (by kernel_rfl) (by kernel_rfl) (fun _ _ _ h => h) (by kernel_rfl) (fun w' hw' => by kernel_rfl) sS1 ?_
    refine Wk.dVal 43 (some 57) (.slice B mb cb) rfl rfl (by kernel_rfl) (by kernel_rfl) (by kernel_rfl) (fun _ _ _ h => h) (by kernel_rfl) (fun w' hw' => (Wk.load1 26 (.tmp 56) rfl (by kernel_rfl) ⟨w.heap.size, 2, none⟩ (by kernel_rfl) (.slice B mb cb) ((cell_of_row _ _ 2 _ _ _ (Wk.Chg.hp hw' (Wk.Chg.hp ch5 (Wk.Chg.hp ch4 (Wk.Chg.hp ch3 hb1 trivial) trivial) trivial) (Mur.off_iff.2 (fun t ht => by have := hMz t ht; omega)))).trans rfl))) sS1 ?_
    refine Wk.dOp 44 (by kernel_rfl) ?_
    refine Wk.oCall (some 58) 10 [.tmp 4, .const (.int .i64 0), .tmp 57] #[51, 3, 26] [.pointer (some ⟨W1.heap.size, 0, none⟩), .int .i64 0, .slice B mb cb] rfl rfl (by kernel_rfl) rfl (by kernel_rfl) (by kernel_rfl) ?_
    have hD1 := Mur.DskF.chg hDz ch4 (fun s hs hl => trivial)
    have hD2 := Mur.DskF.chg hD1 ch5 (fun s hs hl => trivial)
    have kk3 : Wk.Chg [] w W1 := Wk.Chg.step ((Wk.Chg.refl _).more (by simp)) ch1 trivial
    have kk4 := Wk.Chg.step kk3 ch3 trivial
    have kk5 := Wk.Chg.step kk4 ch4 trivial
    have kk6 := Wk.Chg.step kk5 ch5 trivial
    refine (Append_any W1.heap.size Mur.Dk.new [W1.heap.size] 0 B mb cb bs W5 hD2 (Mur.byt_chg hb kk6 (fun g off e hl => trivial)) hbn).mono ?_
    rw [show Mur.Dk.appE Mur.Dk.new 0 mb = 0 from (Mur.app_new bs mb (Mur.byt_chg hb kk6 (fun g off e hl => trivial)).1 (by omega)).1]
    rw [show Mur.Dk.app Mur.Dk.new 0 bs = (⟨⟨bs, 0⟩, ⟨[], 0⟩⟩ : Dk) from (Mur.app_new bs mb (Mur.byt_chg hb kk6 (fun g off e hl => trivial)).1 (by omega)).2]
    rintro _ W6 ⟨FF1, rfl, hD3, ch6, no1⟩
    have hM1 := Mur.DskF.mem hD3
    have zz6 := ch6.size
    have sS2 := Wk.Chg.step sS1 ch6 (Mur.newOr_iff.2 (fun t ht => .inl ht))
    refine ⟨_, rfl, sS2, ?_⟩
    refine Wk.dVal 45 (some 59) (.bool true) rfl rfl (by kernel_rfl) (by kernel_rfl) (by kernel_rfl) (fun _ _ _ h => h) (by kernel_rfl) (fun w' hw' => (Wk.boolT (b := ((0 : Int) == (0 : Int))) (beq_iff_eq.2 (by decide)) (by kernel_rfl))) sS2 ?_
    refine Wk.dVal 46 (some 60) (.bool true) rfl rfl (by kernel_rfl) (by kernel_rfl) (by kernel_rfl) (fun _ _ _ h => h) (by kernel_rfl) (fun w' hw' => by kernel_rfl) sS2 ?_
    refine Wk.dVal 47 (some 61) (.bool true) rfl rfl (by kernel_rfl) (by kernel_rfl) (by kernel_rfl) (fun _ _ _ h => h) (by kernel_rfl) (fun w' hw' => by kernel_rfl) sS2 ?_
    refine Wk.dVal 50 (some 64) (.pointer (some ⟨w.heap.size, 2, none⟩)) rfl rfl (by kernel_rfl) (by kernel_rfl) (by kernel_rfl) (fun _ _ _ h => h) (by kernel_rfl) (fun w' hw' => by kernel_rfl) sS2 ?_
    refine Wk.dVal 51 (some 65) (.slice B mb cb) rfl rfl (by kernel_rfl) (by kernel_rfl) (by kernel_rfl) (fun _ _ _ h => h) (by kernel_rfl) (fun w' hw' => (Wk.load1 26 (.tmp 64) rfl (by kernel_rfl) ⟨w.heap.size, 2, none⟩ (by kernel_rfl) (.slice B mb cb) ((cell_of_row _ _ 2 _ _ _ (Wk.Chg.hp hw' (Wk.Chg.hp ch5 (Wk.Chg.hp ch4 (Wk.Chg.hp ch3 hb1 trivial) trivial) trivial) (Mur.off_iff.2 (fun t ht => by have := hMz t ht; omega)))).trans rfl))) sS2 ?_
    refine Wk.dOp2 48 52 (by kernel_rfl) ?_ ?_
    · refine Wk.oCall (some 62) 13 [.tmp 4, .const (.int .i64 0)] #[51, 3] [.pointer (some ⟨W1.heap.size, 0, none⟩), .int .i64 0] rfl rfl (by kernel_rfl) rfl (by kernel_rfl) (by kernel_rfl) ?_
      refine (Bytes_any W1.heap.size (⟨⟨bs, 0⟩, ⟨[], 0⟩⟩ : Dk) FF1 0 W6 hD3).mono ?_
      rw [show Mur.Dk.bytes (⟨⟨bs, 0⟩, ⟨[], 0⟩⟩ : Dk) 0 = bs from rfl]
      rintro _ W7 ⟨vv1, rfl, HO1, ch7⟩
      obtain ⟨AA1, nn1, rfl, hcc1, hmm1, hN1, HS1, hl1⟩ := Wk.own_sl HO1
      have hB2 : Byt W7 AA1 bs.length bs := by obtain ⟨_, _, e_, _, _, hq⟩ := Mur.own_byt HO1; cases e_; exact hq
      have zz7 := ch7.size
      have sS3 := Wk.Chg.step sS2 ch7 trivial
      refine ⟨_, rfl, sS3, ?_⟩
      refine Wk.dOp2 49 52 (by kernel_rfl) ?_ ?_
      · refine Wk.oVal (some 63) (.string (Mur.str bs)) rfl rfl (by kernel_rfl) (Mur.run_str 26 9 (.tmp 62) 5 rfl Try.underlying26 Try.underlying5 Try.underlying9 AA1 bs.length nn1 bs (by kernel_rfl) hB2) ?_
        refine ⟨sS3, ?_⟩
        refine Wk.dOp 52 (by kernel_rfl) ?_
        have kk7 := Wk.Chg.step kk6 ch6 (Mur.newOr_iff.2 (fun t ht => .inr (by have := hMz t ht; omega)))
        have kk8 := Wk.Chg.step kk7 ch7 trivial
        refine Wk.oVal (some 66) (.string (Mur.str bs)) rfl rfl (by kernel_rfl) (Mur.run_str 26 9 (.tmp 65) 5 rfl Try.underlying26 Try.underlying5 Try.underlying9 B mb cb bs (by kernel_rfl) (Mur.byt_chg hb kk8 (fun g off e hl => trivial))) ?_
        refine ⟨sS3, ?_⟩
        refine Wk.dVal 53 (some 67) (.bool true) rfl rfl (by kernel_rfl) (by kernel_rfl) (by kernel_rfl) (fun _ _ _ h => h) (by kernel_rfl) (fun w' hw' => (Wk.boolT (b := decide (bs = bs)) (decide_eq_true (rfl)) (Mur.streq 9 9 (.tmp 63) (.tmp 66) rfl bs bs (by kernel_rfl) (by kernel_rfl)))) sS3 ?_
        refine Wk.dVal 54 (some 68) (.bool true) rfl rfl (by kernel_rfl) (by kernel_rfl) (by kernel_rfl) (fun _ _ _ h => h) (by kernel_rfl) (fun w' hw' => by kernel_rfl) sS3 ?_
        refine Wk.dVal 55 (some 69) (.bool true) rfl rfl (by kernel_rfl) (by kernel_rfl) (by kernel_rfl) (fun _ _ _ h => h) (by kernel_rfl) (fun w' hw' => by kernel_rfl) sS3 ?_
        refine Wk.dOp 56 (by kernel_rfl) ?_
        refine Wk.oCall (some 70) 9 [] #[] [] rfl rfl (by kernel_rfl) rfl (by kernel_rfl) (by kernel_rfl) ?_
        refine (known_any W7).mono ?_
        rintro _ W8 ⟨rfl, hB3⟩
        have ch8 := Wk.Chg.ofBelow hB3
        have zz8 := ch8.size
        have sS4 := Wk.Chg.step sS3 ch8 trivial
        refine ⟨_, rfl, sS4, ?_⟩
        refine Wk.dVal 57 (some 71) (.bool true) rfl rfl (by kernel_rfl) (by kernel_rfl) (by kernel_rfl) (fun _ _ _ h => h) (by kernel_rfl) (fun w' hw' => by kernel_rfl) sS4 ?_
        refine Wk.dVal 58 (some 2) (.bool true) rfl rfl (by kernel_rfl) (by kernel_rfl) (by kernel_rfl) (fun _ _ _ h => h) (by kernel_rfl) (fun w' hw' => by kernel_rfl) sS4 ?_
        refine Wk.dEnd (by kernel_rfl) ?_
        refine Wk.nxt ?_
        refine wp_ret ?_
        have kk9 := Wk.Chg.step kk8 ch8 trivial
        refine Wk.ret (.bool true) rfl (by kernel_rfl) ?_
        exact ⟨rfl, Wk.Chg.below0 kk9⟩
      · have kk10 := Wk.Chg.step kk6 ch6 (Mur.newOr_iff.2 (fun t ht => .inr (by have := hMz t ht; omega)))
        have kk11 := Wk.Chg.step kk10 ch7 trivial
        refine Wk.oVal (some 66) (.string (Mur.str bs)) rfl rfl (by kernel_rfl) (Mur.run_str 26 9 (.tmp 65) 5 rfl Try.underlying26 Try.underlying5 Try.underlying9 B mb cb bs (by kernel_rfl) (Mur.byt_chg hb kk11 (fun g off e hl => trivial))) ?_
        refine ⟨sS3, ?_⟩
        refine Wk.dOp 49 (by kernel_rfl) ?_
        refine Wk.oVal (some 63) (.string (Mur.str bs)) rfl rfl (by kernel_rfl) (Mur.run_str 26 9 (.tmp 62) 5 rfl Try.underlying26 Try.underlying5 Try.underlying9 AA1 bs.length nn1 bs (by kernel_rfl) hB2) ?_
        refine ⟨sS3, ?_⟩
        refine Wk.dVal 53 (some 67) (.bool true) rfl rfl (by kernel_rfl) (by kernel_rfl) (by kernel_rfl) (fun _ _ _ h => h) (by kernel_rfl) (fun w' hw' => (Wk.boolT (b := decide (bs = bs)) (decide_eq_true (rfl)) (Mur.streq 9 9 (.tmp 63) (.tmp 66) rfl bs bs (by kernel_rfl) (by kernel_rfl)))) sS3 ?_
        refine Wk.dVal 54 (some 68) (.bool true) rfl rfl (by kernel_rfl) (by kernel_rfl) (by kernel_rfl) (fun _ _ _ h => h) (by kernel_rfl) (fun w' hw' => by kernel_rfl) sS3 ?_
        refine Wk.dVal 55 (some 69) (.bool true) rfl rfl (by kernel_rfl) (by kernel_rfl) (by kernel_rfl) (fun _ _ _ h => h) (by kernel_rfl) (fun w' hw' => by kernel_rfl) sS3 ?_
        refine Wk.dOp 56 (by kernel_rfl) ?_
        refine Wk.oCall (some 70) 9 [] #[] [] rfl rfl (by kernel_rfl) rfl (by kernel_rfl) (by kernel_rfl) ?_
        refine (known_any W7).mono ?_
        rintro _ W9 ⟨rfl, hB4⟩
        have ch9 := Wk.Chg.ofBelow hB4
        have zz9 := ch9.size
        have sS5 := Wk.Chg.step sS3 ch9 trivial
        refine ⟨_, rfl, sS5, ?_⟩
        refine Wk.dVal 57 (some 71) (.bool true) rfl rfl (by kernel_rfl) (by kernel_rfl) (by kernel_rfl) (fun _ _ _ h => h) (by kernel_rfl) (fun w' hw' => by kernel_rfl) sS5 ?_
        refine Wk.dVal 58 (some 2) (.bool true) rfl rfl (by kernel_rfl) (by kernel_rfl) (by kernel_rfl) (fun _ _ _ h => h) (by kernel_rfl) (fun w' hw' => by kernel_rfl) sS5 ?_
        refine Wk.dEnd (by kernel_rfl) ?_
        refine Wk.nxt ?_
        refine wp_ret ?_
        have kk12 := Wk.Chg.step kk11 ch9 trivial
        refine Wk.ret (.bool true) rfl (by kernel_rfl) ?_
        exact ⟨rfl, Wk.Chg.below0 kk12⟩
    · have kk13 := Wk.Chg.step kk6 ch6 (Mur.newOr_iff.2 (fun t ht => .inr (by have := hMz t ht; omega)))
      refine Wk.oVal (some 66) (.string (Mur.str bs)) rfl rfl (by kernel_rfl) (Mur.run_str 26 9 (.tmp 65) 5 rfl Try.underlying26 Try.underlying5 Try.underlying9 B mb cb bs (by kernel_rfl) (Mur.byt_chg hb kk13 (fun g off e hl => trivial))) ?_
      refine ⟨sS2, ?_⟩
      refine Wk.dOp 48 (by kernel_rfl) ?_
      refine Wk.oCall (some 62) 13 [.tmp 4, .const (.int .i64 0)] #[51, 3] [.pointer (some ⟨W1.heap.size, 0, none⟩), .int .i64 0] rfl rfl (by kernel_rfl) rfl (by kernel_rfl) (by kernel_rfl) ?_
      refine (Bytes_any W1.heap.size (⟨⟨bs, 0⟩, ⟨[], 0⟩⟩ : Dk) FF1 0 W6 hD3).mono ?_
      rw [show Mur.Dk.bytes (⟨⟨bs, 0⟩, ⟨[], 0⟩⟩ : Dk) 0 = bs from rfl]
      rintro _ W10 ⟨vv2, rfl, HO2, ch10⟩
      obtain ⟨AA2, nn2, rfl, hcc2, hmm2, hN2, HS2, hl2⟩ := Wk.own_sl HO2
      have hB5 : Byt W10 AA2 bs.length bs := by obtain ⟨_, _, e_, _, _, hq⟩ := Mur.own_byt HO2; cases e_; exact hq
      have zz10 := ch10.size
      have sS6 := Wk.Chg.step sS2 ch10 trivial
      refine ⟨_, rfl, sS6, ?_⟩
      refine Wk.dOp 49 (by kernel_rfl) ?_
      refine Wk.oVal (some 63) (.string (Mur.str bs)) rfl rfl (by kernel_rfl) (Mur.run_str 26 9 (.tmp 62) 5 rfl Try.underlying26 Try.underlying5 Try.underlying9 AA2 bs.length nn2 bs (by kernel_rfl) hB5) ?_
      refine ⟨sS6, ?_⟩
      refine Wk.dVal 53 (some 67) (.bool true) rfl rfl (by kernel_rfl) (by kernel_rfl) (by kernel_rfl) (fun _ _ _ h => h) (by kernel_rfl) (fun w' hw' => (Wk.boolT (b := decide (bs = bs)) (decide_eq_true (rfl)) (Mur.streq 9 9 (.tmp 63) (.tmp 66) rfl bs bs (by kernel_rfl) (by kernel_rfl)))) sS6 ?_
      refine Wk.dVal 54 (some 68) (.bool true) rfl rfl (by kernel_rfl) (by kernel_rfl) (by kernel_rfl) (fun _ _ _ h => h) (by kernel_rfl) (fun w' hw' => by kernel_rfl) sS6 ?_
      refine Wk.dVal 55 (some 69) (.bool true) rfl rfl (by kernel_rfl) (by kernel_rfl) (by kernel_rfl) (fun _ _ _ h => h) (by kernel_rfl) (fun w' hw' => by kernel_rfl) sS6 ?_
      refine Wk.dOp 56 (by kernel_rfl) ?_
      refine Wk.oCall (some 70) 9 [] #[] [] rfl rfl (by kernel_rfl) rfl (by kernel_rfl) (by kernel_rfl) ?_
      refine (known_any W10).mono ?_
      rintro _ W11 ⟨rfl, hB6⟩
      have ch11 := Wk.Chg.ofBelow hB6
      have zz11 := ch11.size
      have sS7 := Wk.Chg.step sS6 ch11 trivial
      refine ⟨_, rfl, sS7, ?_⟩
      refine Wk.dVal 57 (some 71) (.bool true) rfl rfl (by kernel_rfl) (by kernel_rfl) (by kernel_rfl) (fun _ _ _ h => h) (by kernel_rfl) (fun w' hw' => by kernel_rfl) sS7 ?_
      refine Wk.dVal 58 (some 2) (.bool true) rfl rfl (by kernel_rfl) (by kernel_rfl) (by kernel_rfl) (fun _ _ _ h => h) (by kernel_rfl) (fun w' hw' => by kernel_rfl) sS7 ?_
      refine Wk.dEnd (by kernel_rfl) ?_
      refine Wk.nxt ?_
      refine wp_ret ?_
      have kk14 := Wk.Chg.step kk13 ch10 trivial
      have kk15 := Wk.Chg.step kk14 ch11 trivial
      refine Wk.ret (.bool true) rfl (by kernel_rfl) ?_
      exact ⟨rfl, Wk.Chg.below0 kk15⟩
end Go.Proofs.Ytddabjlhidokaaa
