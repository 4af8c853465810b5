/- The builder's laws where no turn is made. -/
import Derived.Test.YtidhohnhhhooaaaBdCon
import Derived.Test.YtidhohnhhhooaaaBdAns
namespace Go.Proofs.Ytidhohnhhhooaaa
open Go.RowKit
open Mur (Trn Fct Upd Tls Tolds Ref refTo toldTo trnTo tick outsTo wants tcells)
set_option maxRecDepth 100000
set_option maxHeartbeats 4000000
theorem plays_no (most budget : Int) (A : Option Addr) (n c : Nat) (w : World) (hno : most < 0 ∨ 1000000 < most ∨ budget < 0 ∨ 1000000 < budget) :
    Calls Try.prog 3 #[.int .i64 most, .int .i64 budget, .slice A n c] w fun e w' => e = .returned (.bool true) ∧ Below w.heap.size w w' := by
  refine calls_of_wp Try.func3 rfl ?_
  refine wp_seq ?_
  refine Wk.reg ?_
  refine Wk.rPure 0 (some 6) (.bool false) rfl rfl (by kernel_rfl) (by kernel_rfl) ?_
  refine Wk.rEnd 1 rfl ?_
  refine Wk.nxt ?_
  refine wp_seq ?_
  refine Wk.reg ?_
  refine Wk.rPure 0 (some 13) (.int .i64 most) rfl rfl (by kernel_rfl) (by kernel_rfl) ?_
  refine Wk.rPure 1 (some 14) (.int .i64 budget) rfl rfl (by kernel_rfl) (by kernel_rfl) ?_
  refine Wk.rCall 2 (some 15) 7 [.tmp 13, .tmp 14] #[3, 3] [.int .i64 most, .int .i64 budget] rfl rfl (by kernel_rfl) rfl (by kernel_rfl) (by kernel_rfl) ?_
  refine (New_no most budget w hno).mono ?_
  rintro _ _ ⟨rfl, rfl⟩
  refine ⟨_, rfl, ?_⟩
  refine Wk.rPure 3 (some 7) (.pointer none) rfl rfl (by kernel_rfl) (by kernel_rfl) ?_
  refine Wk.rEnd 4 rfl ?_
  refine Wk.nxt ?_
  refine wp_seq ?_
  refine Wk.reg ?_
  refine Wk.rPure 0 (some 16) (.int .i64 most) rfl rfl (by kernel_rfl) (by kernel_rfl) ?_
  by_cases hx1 : most ≥ (0 : Int)
  · refine Wk.rPure 1 (some 17) (.bool true) rfl rfl (by kernel_rfl) (Wk.boolT (b := decide (most ≥ (0 : Int))) (decide_eq_true (by first | exact hx1 | omega)) (by kernel_rfl)) ?_
    refine Wk.rPure 2 (some 18) (.bool true) rfl rfl (by kernel_rfl) (by kernel_rfl) ?_
    refine Wk.rPure 3 (some 19) (.int .i64 budget) rfl rfl (by kernel_rfl) (by kernel_rfl) ?_
    by_cases hx2 : budget ≥ (0 : Int)
    · refine Wk.rPure 4 (some 20) (.bool true) rfl rfl (by kernel_rfl) (Wk.boolT (b := decide (budget ≥ (0 : Int))) (decide_eq_true (by first | exact hx2 | omega)) (by kernel_rfl)) ?_
      refine Wk.rPure 5 (some 21) (.bool true) rfl rfl (by kernel_rfl) (by kernel_rfl) ?_
      refine Wk.rPure 6 (some 22) (.bool true) rfl rfl (by kernel_rfl) (by kernel_rfl) ?_
      refine Wk.rPure 7 (some 23) (.int .i64 most) rfl rfl (by kernel_rfl) (by kernel_rfl) ?_
      by_cases hx3 : most ≤ (1000000 : Int)
      · refine Wk.rPure 8 (some 24) (.bool true) rfl rfl (by kernel_rfl) (Wk.boolT (b := decide (most ≤ (1000000 : Int))) (decide_eq_true (by first | exact hx3 | omega)) (by kernel_rfl)) ?_
        refine Wk.rPure 9 (some 25) (.bool true) rfl rfl (by kernel_rfl) (by kernel_rfl) ?_
        refine Wk.rPure 10 (some 26) (.bool true) rfl rfl (by kernel_rfl) (by kernel_rfl) ?_
        refine Wk.rPure 11 (some 27) (.int .i64 budget) rfl rfl (by kernel_rfl) (by kernel_rfl) ?_
        by_cases hx4 : budget ≤ (1000000 : Int)
        · refine Wk.rPure 12 (some 28) (.bool true) rfl rfl (by kernel_rfl) (Wk.boolT (b := decide (budget ≤ (1000000 : Int))) (decide_eq_true (by first | exact hx4 | omega)) (by kernel_rfl)) ?_
          refine Wk.rPure 13 (some 29) (.bool true) rfl rfl (by kernel_rfl) (by kernel_rfl) ?_
          refine Wk.rPure 14 (some 8) (.bool true) rfl rfl (by kernel_rfl) (by kernel_rfl) ?_
          refine Wk.rEnd 15 rfl ?_
          refine Wk.nxt ?_
          refine wp_seq ?_
          refine wp_seq ?_
          refine Wk.reg ?_
          refine Wk.rPure 0 (some 30) (.pointer none) rfl rfl (by kernel_rfl) (by kernel_rfl) ?_
          refine Wk.rPure 1 (some 31) (.bool false) rfl rfl (by kernel_rfl) (by kernel_rfl) ?_
          refine Wk.rPure 2 (some 32) (.bool true) rfl rfl (by kernel_rfl) (by kernel_rfl) ?_
          refine Wk.rPure 3 (some 33) (.bool true) rfl rfl (by kernel_rfl) (by kernel_rfl) ?_
          refine Wk.rPure 4 (some 34) (.bool true) rfl rfl (by kernel_rfl) (by kernel_rfl) ?_
          refine Wk.rPass 5 (some 35) rfl rfl (by kernel_rfl) ?_
          refine Wk.rPass 6 (some 36) rfl rfl (by kernel_rfl) ?_
          refine Wk.rPass 7 (some 37) rfl rfl (by kernel_rfl) ?_
          refine Wk.rPure 8 (some 38) (.bool true) rfl rfl (by kernel_rfl) (by kernel_rfl) ?_
          refine Wk.rEnd 9 rfl ?_
          refine Wk.nxt ?_
          refine wp_cond_true (by kernel_rfl) ?_
          refine wp_seq ?_
          refine Wk.reg ?_
          refine Wk.rPure 0 (some 39) (.pointer none) rfl rfl (by kernel_rfl) (by kernel_rfl) ?_
          refine Wk.rPure 1 (some 40) (.bool false) rfl rfl (by kernel_rfl) (by kernel_rfl) ?_
          refine Wk.rPure 2 (some 41) (.bool true) rfl rfl (by kernel_rfl) (by kernel_rfl) ?_
          refine Wk.rPure 3 (some 42) (.bool false) rfl rfl (by kernel_rfl) (by kernel_rfl) ?_
          refine Wk.rPure 4 (some 43) (.bool false) rfl rfl (by kernel_rfl) (by kernel_rfl) ?_
          refine Wk.rPass 5 (some 44) rfl rfl (by kernel_rfl) ?_
          refine Wk.rPure 6 (some 45) (.bool false) rfl rfl (by kernel_rfl) (by kernel_rfl) ?_
          refine Wk.rPure 7 (some 6) (.bool false) rfl rfl (by kernel_rfl) (by kernel_rfl) ?_
          refine Wk.rEnd 8 rfl ?_
          refine Wk.nxt ?_
          refine wp_ret ?_
          refine Wk.thR ?_
          exfalso; omega
        · refine Wk.rPure 12 (some 28) (.bool false) rfl rfl (by kernel_rfl) (Wk.boolF (b := decide (budget ≤ (1000000 : Int))) (decide_eq_false (by first | exact hx4 | omega)) (by kernel_rfl)) ?_
          refine Wk.rPure 13 (some 29) (.bool false) rfl rfl (by kernel_rfl) (by kernel_rfl) ?_
          refine Wk.rPure 14 (some 8) (.bool false) rfl rfl (by kernel_rfl) (by kernel_rfl) ?_
          refine Wk.rEnd 15 rfl ?_
          refine Wk.nxt ?_
          refine wp_seq ?_
          refine wp_seq ?_
          refine Wk.reg ?_
          refine Wk.rPure 0 (some 30) (.pointer none) rfl rfl (by kernel_rfl) (by kernel_rfl) ?_
          refine Wk.rPure 1 (some 31) (.bool false) rfl rfl (by kernel_rfl) (by kernel_rfl) ?_
          refine Wk.rPure 2 (some 32) (.bool false) rfl rfl (by kernel_rfl) (by kernel_rfl) ?_
          refine Wk.rPure 3 (some 33) (.bool false) rfl rfl (by kernel_rfl) (by kernel_rfl) ?_
          refine Wk.rPure 4 (some 34) (.bool false) rfl rfl (by kernel_rfl) (by kernel_rfl) ?_
          refine Wk.rPure 5 (some 35) (.slice A n c) rfl rfl (by kernel_rfl) (by kernel_rfl) ?_
          refine Wk.rPure 6 (some 36) (.int .i64 ((n : Nat) : Int)) rfl rfl (by kernel_rfl) (by kernel_rfl) ?_
          by_cases hx5 : ((n : Nat) : Int) > (200 : Int)
          · refine Wk.rPure 7 (some 37) (.bool true) rfl rfl (by kernel_rfl) (Wk.boolT (b := decide (((n : Nat) : Int) > (200 : Int))) (decide_eq_true (by first | exact hx5 | omega)) (by kernel_rfl)) ?_
            refine Wk.rPure 8 (some 38) (.bool true) rfl rfl (by kernel_rfl) (by kernel_rfl) ?_
            refine Wk.rEnd 9 rfl ?_
            refine Wk.nxt ?_
            refine wp_cond_true (by kernel_rfl) ?_
            refine wp_seq ?_
            refine Wk.reg ?_
            refine Wk.rPure 0 (some 39) (.pointer none) rfl rfl (by kernel_rfl) (by kernel_rfl) ?_
            refine Wk.rPure 1 (some 40) (.bool false) rfl rfl (by kernel_rfl) (by kernel_rfl) ?_
            refine Wk.rPure 2 (some 41) (.bool false) rfl rfl (by kernel_rfl) (by kernel_rfl) ?_
            refine Wk.rPure 3 (some 42) (.bool true) rfl rfl (by kernel_rfl) (by kernel_rfl) ?_
            refine Wk.rPure 4 (some 43) (.bool true) rfl rfl (by kernel_rfl) (by kernel_rfl) ?_
            refine Wk.rCall 5 (some 44) 8 [] #[] [] rfl rfl (by kernel_rfl) rfl (by kernel_rfl) (by kernel_rfl) ?_
            refine (known_any w).mono ?_
            rintro _ W1 ⟨rfl, hB1⟩
            have ch1 := Wk.Chg.ofBelow hB1
            have zz1 := ch1.size
            refine ⟨_, rfl, ?_⟩
            refine Wk.rPure 6 (some 45) (.bool true) rfl rfl (by kernel_rfl) (by kernel_rfl) ?_
            refine Wk.rPure 7 (some 6) (.bool true) rfl rfl (by kernel_rfl) (by kernel_rfl) ?_
            refine Wk.rEnd 8 rfl ?_
            refine Wk.nxt ?_
            refine wp_ret ?_
            refine Wk.thR ?_
            have kk1 : Wk.Chg [] w W1 := Wk.Chg.step ((Wk.Chg.refl _).more (by simp)) ch1 trivial
            refine Wk.ret (.bool true) rfl (by kernel_rfl) ?_
            exact ⟨rfl, Wk.Chg.below0 kk1⟩
          · refine Wk.rPure 7 (some 37) (.bool false) rfl rfl (by kernel_rfl) (Wk.boolF (b := decide (((n : Nat) : Int) > (200 : Int))) (decide_eq_false (by first | exact hx5 | omega)) (by kernel_rfl)) ?_
            refine Wk.rPure 8 (some 38) (.bool false) rfl rfl (by kernel_rfl) (by kernel_rfl) ?_
            refine Wk.rEnd 9 rfl ?_
            refine Wk.nxt ?_
            refine wp_cond_false (by kernel_rfl) ?_
            refine wp_skip ?_
            refine Wk.nxt ?_
            refine wp_seq ?_
            refine wp_seq ?_
            refine Wk.reg ?_
            refine Wk.rPure 0 (some 46) (.bool false) rfl rfl (by kernel_rfl) (by kernel_rfl) ?_
            refine Wk.rPure 1 (some 47) (.bool true) rfl rfl (by kernel_rfl) (by kernel_rfl) ?_
            refine Wk.rEnd 2 rfl ?_
            refine Wk.nxt ?_
            refine wp_cond_true (by kernel_rfl) ?_
            refine wp_seq ?_
            refine Wk.reg ?_
            refine Wk.rCall 0 (some 48) 8 [] #[] [] rfl rfl (by kernel_rfl) rfl (by kernel_rfl) (by kernel_rfl) ?_
            refine (known_any w).mono ?_
            rintro _ W2 ⟨rfl, hB2⟩
            have ch2 := Wk.Chg.ofBelow hB2
            have zz2 := ch2.size
            refine ⟨_, rfl, ?_⟩
            refine Wk.rPure 1 (some 6) (.bool true) rfl rfl (by kernel_rfl) (by kernel_rfl) ?_
            refine Wk.rEnd 2 rfl ?_
            refine Wk.nxt ?_
            refine wp_ret ?_
            refine Wk.thR ?_
            have kk2 : Wk.Chg [] w W2 := Wk.Chg.step ((Wk.Chg.refl _).more (by simp)) ch2 trivial
            refine Wk.ret (.bool true) rfl (by kernel_rfl) ?_
            exact ⟨rfl, Wk.Chg.below0 kk2⟩
      · refine Wk.rPure 8 (some 24) (.bool false) rfl rfl (by kernel_rfl) (Wk.boolF (b := decide (most ≤ (1000000 : Int))) (decide_eq_false (by first | exact hx3 | omega)) (by kernel_rfl)) ?_
        refine Wk.rPure 9 (some 25) (.bool false) rfl rfl (by kernel_rfl) (by kernel_rfl) ?_
        refine Wk.rPure 10 (some 26) (.bool false) rfl rfl (by kernel_rfl) (by kernel_rfl) ?_
        refine Wk.rPass 11 (some 27) rfl rfl (by kernel_rfl) ?_
        refine Wk.rPass 12 (some 28) rfl rfl (by kernel_rfl) ?_
        refine Wk.rPure 13 (some 29) (.bool false) rfl rfl (by kernel_rfl) (by kernel_rfl) ?_
        refine Wk.rPure 14 (some 8) (.bool false) rfl rfl (by kernel_rfl) (by kernel_rfl) ?_
        refine Wk.rEnd 15 rfl ?_
        refine Wk.nxt ?_
        refine wp_seq ?_
        refine wp_seq ?_
        refine Wk.reg ?_
        refine Wk.rPure 0 (some 30) (.pointer none) rfl rfl (by kernel_rfl) (by kernel_rfl) ?_
        refine Wk.rPure 1 (some 31) (.bool false) rfl rfl (by kernel_rfl) (by kernel_rfl) ?_
        refine Wk.rPure 2 (some 32) (.bool false) rfl rfl (by kernel_rfl) (by kernel_rfl) ?_
        refine Wk.rPure 3 (some 33) (.bool false) rfl rfl (by kernel_rfl) (by kernel_rfl) ?_
        refine Wk.rPure 4 (some 34) (.bool false) rfl rfl (by kernel_rfl) (by kernel_rfl) ?_
        refine Wk.rPure 5 (some 35) (.slice A n c) rfl rfl (by kernel_rfl) (by kernel_rfl) ?_
        refine Wk.rPure 6 (some 36) (.int .i64 ((n : Nat) : Int)) rfl rfl (by kernel_rfl) (by kernel_rfl) ?_
        by_cases hx6 : ((n : Nat) : Int) > (200 : Int)
        · refine Wk.rPure 7 (some 37) (.bool true) rfl rfl (by kernel_rfl) (Wk.boolT (b := decide (((n : Nat) : Int) > (200 : Int))) (decide_eq_true (by first | exact hx6 | omega)) (by kernel_rfl)) ?_
          refine Wk.rPure 8 (some 38) (.bool true) rfl rfl (by kernel_rfl) (by kernel_rfl) ?_
          refine Wk.rEnd 9 rfl ?_
          refine Wk.nxt ?_
          refine wp_cond_true (by kernel_rfl) ?_
          refine wp_seq ?_
          refine Wk.reg ?_
          refine Wk.rPure 0 (some 39) (.pointer none) rfl rfl (by kernel_rfl) (by kernel_rfl) ?_
          refine Wk.rPure 1 (some 40) (.bool false) rfl rfl (by kernel_rfl) (by kernel_rfl) ?_
          refine Wk.rPure 2 (some 41) (.bool false) rfl rfl (by kernel_rfl) (by kernel_rfl) ?_
          refine Wk.rPure 3 (some 42) (.bool true) rfl rfl (by kernel_rfl) (by kernel_rfl) ?_
          refine Wk.rPure 4 (some 43) (.bool true) rfl rfl (by kernel_rfl) (by kernel_rfl) ?_
          refine Wk.rCall 5 (some 44) 8 [] #[] [] rfl rfl (by kernel_rfl) rfl (by kernel_rfl) (by kernel_rfl) ?_
          refine (known_any w).mono ?_
          rintro _ W3 ⟨rfl, hB3⟩
          have ch3 := Wk.Chg.ofBelow hB3
          have zz3 := ch3.size
          refine ⟨_, rfl, ?_⟩
          refine Wk.rPure 6 (some 45) (.bool true) rfl rfl (by kernel_rfl) (by kernel_rfl) ?_
          refine Wk.rPure 7 (some 6) (.bool true) rfl rfl (by kernel_rfl) (by kernel_rfl) ?_
          refine Wk.rEnd 8 rfl ?_
          refine Wk.nxt ?_
          refine wp_ret ?_
          refine Wk.thR ?_
          have kk3 : Wk.Chg [] w W3 := Wk.Chg.step ((Wk.Chg.refl _).more (by simp)) ch3 trivial
          refine Wk.ret (.bool true) rfl (by kernel_rfl) ?_
          exact ⟨rfl, Wk.Chg.below0 kk3⟩
        · refine Wk.rPure 7 (some 37) (.bool false) rfl rfl (by kernel_rfl) (Wk.boolF (b := decide (((n : Nat) : Int) > (200 : Int))) (decide_eq_false (by first | exact hx6 | omega)) (by kernel_rfl)) ?_
          refine Wk.rPure 8 (some 38) (.bool false) rfl rfl (by kernel_rfl) (by kernel_rfl) ?_
          refine Wk.rEnd 9 rfl ?_
          refine Wk.nxt ?_
          refine wp_cond_false (by kernel_rfl) ?_
          refine wp_skip ?_
          refine Wk.nxt ?_
          refine wp_seq ?_
          refine wp_seq ?_
          refine Wk.reg ?_
          refine Wk.rPure 0 (some 46) (.bool false) rfl rfl (by kernel_rfl) (by kernel_rfl) ?_
          refine Wk.rPure 1 (some 47) (.bool true) rfl rfl (by kernel_rfl) (by kernel_rfl) ?_
          refine Wk.rEnd 2 rfl ?_
          refine Wk.nxt ?_
          refine wp_cond_true (by kernel_rfl) ?_
          refine wp_seq ?_
          refine Wk.reg ?_
          refine Wk.rCall 0 (some 48) 8 [] #[] [] rfl rfl (by kernel_rfl) rfl (by kernel_rfl) (by kernel_rfl) ?_
          refine (known_any w).mono ?_
          rintro _ W4 ⟨rfl, hB4⟩
          have ch4 := Wk.Chg.ofBelow hB4
          have zz4 := ch4.size
          refine ⟨_, rfl, ?_⟩
          refine Wk.rPure 1 (some 6) (.bool true) rfl rfl (by kernel_rfl) (by kernel_rfl) ?_
          refine Wk.rEnd 2 rfl ?_
          refine Wk.nxt ?_
          refine wp_ret ?_
          refine Wk.thR ?_
          have kk4 : Wk.Chg [] w W4 := Wk.Chg.step ((Wk.Chg.refl _).more (by simp)) ch4 trivial
          refine Wk.ret (.bool true) rfl (by kernel_rfl) ?_
          exact ⟨rfl, Wk.Chg.below0 kk4⟩
    · refine Wk.rPure 4 (some 20) (.bool false) rfl rfl (by kernel_rfl) (Wk.boolF (b := decide (budget ≥ (0 : Int))) (decide_eq_false (by first | exact hx2 | omega)) (by kernel_rfl)) ?_
      refine Wk.rPure 5 (some 21) (.bool false) rfl rfl (by kernel_rfl) (by kernel_rfl) ?_
      refine Wk.rPure 6 (some 22) (.bool false) rfl rfl (by kernel_rfl) (by kernel_rfl) ?_
      refine Wk.rPass 7 (some 23) rfl rfl (by kernel_rfl) ?_
      refine Wk.rPass 8 (some 24) rfl rfl (by kernel_rfl) ?_
      refine Wk.rPure 9 (some 25) (.bool false) rfl rfl (by kernel_rfl) (by kernel_rfl) ?_
      refine Wk.rPure 10 (some 26) (.bool false) rfl rfl (by kernel_rfl) (by kernel_rfl) ?_
      refine Wk.rPass 11 (some 27) rfl rfl (by kernel_rfl) ?_
      refine Wk.rPass 12 (some 28) rfl rfl (by kernel_rfl) ?_
      refine Wk.rPure 13 (some 29) (.bool false) rfl rfl (by kernel_rfl) (by kernel_rfl) ?_
      refine Wk.rPure 14 (some 8) (.bool false) rfl rfl (by kernel_rfl) (by kernel_rfl) ?_
      refine Wk.rEnd 15 rfl ?_
      refine Wk.nxt ?_
      refine wp_seq ?_
      refine wp_seq ?_
      refine Wk.reg ?_
      refine Wk.rPure 0 (some 30) (.pointer none) rfl rfl (by kernel_rfl) (by kernel_rfl) ?_
      refine Wk.rPure 1 (some 31) (.bool false) rfl rfl (by kernel_rfl) (by kernel_rfl) ?_
      refine Wk.rPure 2 (some 32) (.bool false) rfl rfl (by kernel_rfl) (by kernel_rfl) ?_
      refine Wk.rPure 3 (some 33) (.bool false) rfl rfl (by kernel_rfl) (by kernel_rfl) ?_
      refine Wk.rPure 4 (some 34) (.bool false) rfl rfl (by kernel_rfl) (by kernel_rfl) ?_
      refine Wk.rPure 5 (some 35) (.slice A n c) rfl rfl (by kernel_rfl) (by kernel_rfl) ?_
      refine Wk.rPure 6 (some 36) (.int .i64 ((n : Nat) : Int)) rfl rfl (by kernel_rfl) (by kernel_rfl) ?_
      by_cases hx7 : ((n : Nat) : Int) > (200 : Int)
      · refine Wk.rPure 7 (some 37) (.bool true) rfl rfl (by kernel_rfl) (Wk.boolT (b := decide (((n : Nat) : Int) > (200 : Int))) (decide_eq_true (by first | exact hx7 | omega)) (by kernel_rfl)) ?_
        refine Wk.rPure 8 (some 38) (.bool true) rfl rfl (by kernel_rfl) (by kernel_rfl) ?_
        refine Wk.rEnd 9 rfl ?_
        refine Wk.nxt ?_
        refine wp_cond_true (by kernel_rfl) ?_
        refine wp_seq ?_
        refine Wk.reg ?_
        refine Wk.rPure 0 (some 39) (.pointer none) rfl rfl (by kernel_rfl) (by kernel_rfl) ?_
        refine Wk.rPure 1 (some 40) (.bool false) rfl rfl (by kernel_rfl) (by kernel_rfl) ?_
        refine Wk.rPure 2 (some 41) (.bool false) rfl rfl (by kernel_rfl) (by kernel_rfl) ?_
        refine Wk.rPure 3 (some 42) (.bool true) rfl rfl (by kernel_rfl) (by kernel_rfl) ?_
        refine Wk.rPure 4 (some 43) (.bool true) rfl rfl (by kernel_rfl) (by kernel_rfl) ?_
        refine Wk.rCall 5 (some 44) 8 [] #[] [] rfl rfl (by kernel_rfl) rfl (by kernel_rfl) (by kernel_rfl) ?_
        refine (known_any w).mono ?_
        rintro _ W5 ⟨rfl, hB5⟩
        have ch5 := Wk.Chg.ofBelow hB5
        have zz5 := ch5.size
        refine ⟨_, rfl, ?_⟩
        refine Wk.rPure 6 (some 45) (.bool true) rfl rfl (by kernel_rfl) (by kernel_rfl) ?_
        refine Wk.rPure 7 (some 6) (.bool true) rfl rfl (by kernel_rfl) (by kernel_rfl) ?_
        refine Wk.rEnd 8 rfl ?_
        refine Wk.nxt ?_
        refine wp_ret ?_
        refine Wk.thR ?_
        have kk5 : Wk.Chg [] w W5 := Wk.Chg.step ((Wk.Chg.refl _).more (by simp)) ch5 trivial
        refine Wk.ret (.bool true) rfl (by kernel_rfl) ?_
        exact ⟨rfl, Wk.Chg.below0 kk5⟩
      · refine Wk.rPure 7 (some 37) (.bool false) rfl rfl (by kernel_rfl) (Wk.boolF (b := decide (((n : Nat) : Int) > (200 : Int))) (decide_eq_false (by first | exact hx7 | omega)) (by kernel_rfl)) ?_
        refine Wk.rPure 8 (some 38) (.bool false) rfl rfl (by kernel_rfl) (by kernel_rfl) ?_
        refine Wk.rEnd 9 rfl ?_
        refine Wk.nxt ?_
        refine wp_cond_false (by kernel_rfl) ?_
        refine wp_skip ?_
        refine Wk.nxt ?_
        refine wp_seq ?_
        refine wp_seq ?_
        refine Wk.reg ?_
        refine Wk.rPure 0 (some 46) (.bool false) rfl rfl (by kernel_rfl) (by kernel_rfl) ?_
        refine Wk.rPure 1 (some 47) (.bool true) rfl rfl (by kernel_rfl) (by kernel_rfl) ?_
        refine Wk.rEnd 2 rfl ?_
        refine Wk.nxt ?_
        refine wp_cond_true (by kernel_rfl) ?_
        refine wp_seq ?_
        refine Wk.reg ?_
        refine Wk.rCall 0 (some 48) 8 [] #[] [] rfl rfl (by kernel_rfl) rfl (by kernel_rfl) (by kernel_rfl) ?_
        refine (known_any w).mono ?_
        rintro _ W6 ⟨rfl, hB6⟩
        have ch6 := Wk.Chg.ofBelow hB6
        have zz6 := ch6.size
        refine ⟨_, rfl, ?_⟩
        refine Wk.rPure 1 (some 6) (.bool true) rfl rfl (by kernel_rfl) (by kernel_rfl) ?_
        refine Wk.rEnd 2 rfl ?_
        refine Wk.nxt ?_
        refine wp_ret ?_
        refine Wk.thR ?_
        have kk6 : Wk.Chg [] w W6 := Wk.Chg.step ((Wk.Chg.refl _).more (by simp)) ch6 trivial
        refine Wk.ret (.bool true) rfl (by kernel_rfl) ?_
        exact ⟨rfl, Wk.Chg.below0 kk6⟩
  · refine Wk.rPure 1 (some 17) (.bool false) rfl rfl (by kernel_rfl) (Wk.boolF (b := decide (most ≥ (0 : Int))) (decide_eq_false (by first | exact hx1 | omega)) (by kernel_rfl)) ?_
    refine Wk.rPure 2 (some 18) (.bool false) rfl rfl (by kernel_rfl) (by kernel_rfl) ?_
    refine Wk.rPass 3 (some 19) rfl rfl (by kernel_rfl) ?_
    refine Wk.rPass 4 (some 20) rfl rfl (by kernel_rfl) ?_
    refine Wk.rPure 5 (some 21) (.bool false) rfl rfl (by kernel_rfl) (by kernel_rfl) ?_
    refine Wk.rPure 6 (some 22) (.bool false) rfl rfl (by kernel_rfl) (by kernel_rfl) ?_
    refine Wk.rPass 7 (some 23) rfl rfl (by kernel_rfl) ?_
    refine Wk.rPass 8 (some 24) rfl rfl (by kernel_rfl) ?_
    refine Wk.rPure 9 (some 25) (.bool false) rfl rfl (by kernel_rfl) (by kernel_rfl) ?_
    refine Wk.rPure 10 (some 26) (.bool false) rfl rfl (by kernel_rfl) (by kernel_rfl) ?_
    refine Wk.rPass 11 (some 27) rfl rfl (by kernel_rfl) ?_
    refine Wk.rPass 12 (some 28) rfl rfl (by kernel_rfl) ?_
    refine Wk.rPure 13 (some 29) (.bool false) rfl rfl (by kernel_rfl) (by kernel_rfl) ?_
    refine Wk.rPure 14 (some 8) (.bool false) rfl rfl (by kernel_rfl) (by kernel_rfl) ?_
    refine Wk.rEnd 15 rfl ?_
    refine Wk.nxt ?_
    refine wp_seq ?_
    refine wp_seq ?_
    refine Wk.reg ?_
    refine Wk.rPure 0 (some 30) (.pointer none) rfl rfl (by kernel_rfl) (by kernel_rfl) ?_
    refine Wk.rPure 1 (some 31) (.bool false) rfl rfl (by kernel_rfl) (by kernel_rfl) ?_
    refine Wk.rPure 2 (some 32) (.bool false) rfl rfl (by kernel_rfl) (by kernel_rfl) ?_
    refine Wk.rPure 3 (some 33) (.bool false) rfl rfl (by kernel_rfl) (by kernel_rfl) ?_
    refine Wk.rPure 4 (some 34) (.bool false) rfl rfl (by kernel_rfl) (by kernel_rfl) ?_
    refine Wk.rPure 5 (some 35) (.slice A n c) rfl rfl (by kernel_rfl) (by kernel_rfl) ?_
    refine Wk.rPure 6 (some 36) (.int .i64 ((n : Nat) : Int)) rfl rfl (by kernel_rfl) (by kernel_rfl) ?_
    by_cases hx8 : ((n : Nat) : Int) > (200 : Int)
    · refine Wk.rPure 7 (some 37) (.bool true) rfl rfl (by kernel_rfl) (Wk.boolT (b := decide (((n : Nat) : Int) > (200 : Int))) (decide_eq_true (by first | exact hx8 | omega)) (by kernel_rfl)) ?_
      refine Wk.rPure 8 (some 38) (.bool true) rfl rfl (by kernel_rfl) (by kernel_rfl) ?_
      refine Wk.rEnd 9 rfl ?_
      refine Wk.nxt ?_
      refine wp_cond_true (by kernel_rfl) ?_
      refine wp_seq ?_
      refine Wk.reg ?_
      refine Wk.rPure 0 (some 39) (.pointer none) rfl rfl (by kernel_rfl) (by kernel_rfl) ?_
      refine Wk.rPure 1 (some 40) (.bool false) rfl rfl (by kernel_rfl) (by kernel_rfl) ?_
      refine Wk.rPure 2 (some 41) (.bool false) rfl rfl (by kernel_rfl) (by kernel_rfl) ?_
      refine Wk.rPure 3 (some 42) (.bool true) rfl rfl (by kernel_rfl) (by kernel_rfl) ?_
      refine Wk.rPure 4 (some 43) (.bool true) rfl rfl (by kernel_rfl) (by kernel_rfl) ?_
      refine Wk.rCall 5 (some 44) 8 [] #[] [] rfl rfl (by kernel_rfl) rfl (by kernel_rfl) (by kernel_rfl) ?_
      refine (known_any w).mono ?_
      rintro _ W7 ⟨rfl, hB7⟩
      have ch7 := Wk.Chg.ofBelow hB7
      have zz7 := ch7.size
      refine ⟨_, rfl, ?_⟩
      refine Wk.rPure 6 (some 45) (.bool true) rfl rfl (by kernel_rfl) (by kernel_rfl) ?_
      refine Wk.rPure 7 (some 6) (.bool true) rfl rfl (by kernel_rfl) (by kernel_rfl) ?_
      refine Wk.rEnd 8 rfl ?_
      refine Wk.nxt ?_
      refine wp_ret ?_
      refine Wk.thR ?_
      have kk7 : Wk.Chg [] w W7 := Wk.Chg.step ((Wk.Chg.refl _).more (by simp)) ch7 trivial
      refine Wk.ret (.bool true) rfl (by kernel_rfl) ?_
      exact ⟨rfl, Wk.Chg.below0 kk7⟩
    · refine Wk.rPure 7 (some 37) (.bool false) rfl rfl (by kernel_rfl) (Wk.boolF (b := decide (((n : Nat) : Int) > (200 : Int))) (decide_eq_false (by first | exact hx8 | omega)) (by kernel_rfl)) ?_
      refine Wk.rPure 8 (some 38) (.bool false) rfl rfl (by kernel_rfl) (by kernel_rfl) ?_
      refine Wk.rEnd 9 rfl ?_
      refine Wk.nxt ?_
      refine wp_cond_false (by kernel_rfl) ?_
      refine wp_skip ?_
      refine Wk.nxt ?_
      refine wp_seq ?_
      refine wp_seq ?_
      refine Wk.reg ?_
      refine Wk.rPure 0 (some 46) (.bool false) rfl rfl (by kernel_rfl) (by kernel_rfl) ?_
      refine Wk.rPure 1 (some 47) (.bool true) rfl rfl (by kernel_rfl) (by kernel_rfl) ?_
      refine Wk.rEnd 2 rfl ?_
      refine Wk.nxt ?_
      refine wp_cond_true (by kernel_rfl) ?_
      refine wp_seq ?_
      refine Wk.reg ?_
      refine Wk.rCall 0 (some 48) 8 [] #[] [] rfl rfl (by kernel_rfl) rfl (by kernel_rfl) (by kernel_rfl) ?_
      refine (known_any w).mono ?_
      rintro _ W8 ⟨rfl, hB8⟩
      have ch8 := Wk.Chg.ofBelow hB8
      have zz8 := ch8.size
      refine ⟨_, rfl, ?_⟩
      refine Wk.rPure 1 (some 6) (.bool true) rfl rfl (by kernel_rfl) (by kernel_rfl) ?_
      refine Wk.rEnd 2 rfl ?_
      refine Wk.nxt ?_
      refine wp_ret ?_
      refine Wk.thR ?_
      have kk8 : Wk.Chg [] w W8 := Wk.Chg.step ((Wk.Chg.refl _).more (by simp)) ch8 trivial
      refine Wk.ret (.bool true) rfl (by kernel_rfl) ?_
      exact ⟨rfl, Wk.Chg.below0 kk8⟩
theorem ends_no (most budget : Int) (A : Option Addr) (n c : Nat) (w : World) (hno : most < 0 ∨ 1000000 < most ∨ budget < 0 ∨ 1000000 < budget) :
    Calls Try.prog 4 #[.int .i64 most, .int .i64 budget, .slice A n c] w fun e w' => e = .returned (.bool true) ∧ Below w.heap.size w w' := by
  refine calls_of_wp Try.func4 rfl ?_
  refine wp_seq ?_
  refine Wk.reg ?_
  refine Wk.rPure 0 (some 6) (.bool false) rfl rfl (by kernel_rfl) (by kernel_rfl) ?_
  refine Wk.rEnd 1 rfl ?_
  refine Wk.nxt ?_
  refine wp_seq ?_
  refine Wk.reg ?_
  refine Wk.rPure 0 (some 13) (.int .i64 most) rfl rfl (by kernel_rfl) (by kernel_rfl) ?_
  refine Wk.rPure 1 (some 14) (.int .i64 budget) rfl rfl (by kernel_rfl) (by kernel_rfl) ?_
  refine Wk.rCall 2 (some 15) 7 [.tmp 13, .tmp 14] #[3, 3] [.int .i64 most, .int .i64 budget] rfl rfl (by kernel_rfl) rfl (by kernel_rfl) (by kernel_rfl) ?_
  refine (New_no most budget w hno).mono ?_
  rintro _ _ ⟨rfl, rfl⟩
  refine ⟨_, rfl, ?_⟩
  refine Wk.rPure 3 (some 7) (.pointer none) rfl rfl (by kernel_rfl) (by kernel_rfl) ?_
  refine Wk.rEnd 4 rfl ?_
  refine Wk.nxt ?_
  refine wp_seq ?_
  refine wp_seq ?_
  refine Wk.reg ?_
  refine Wk.rPure 0 (some 16) (.pointer none) rfl rfl (by kernel_rfl) (by kernel_rfl) ?_
  refine Wk.rPure 1 (some 17) (.bool true) rfl rfl (by kernel_rfl) (by kernel_rfl) ?_
  refine Wk.rPure 2 (some 18) (.bool true) rfl rfl (by kernel_rfl) (by kernel_rfl) ?_
  refine Wk.rPass 3 (some 19) rfl rfl (by kernel_rfl) ?_
  refine Wk.rPass 4 (some 20) rfl rfl (by kernel_rfl) ?_
  refine Wk.rPure 5 (some 21) (.bool true) rfl rfl (by kernel_rfl) (by kernel_rfl) ?_
  refine Wk.rPure 6 (some 22) (.bool true) rfl rfl (by kernel_rfl) (by kernel_rfl) ?_
  refine Wk.rPass 7 (some 23) rfl rfl (by kernel_rfl) ?_
  refine Wk.rPass 8 (some 24) rfl rfl (by kernel_rfl) ?_
  refine Wk.rPure 9 (some 25) (.bool true) rfl rfl (by kernel_rfl) (by kernel_rfl) ?_
  refine Wk.rPure 10 (some 26) (.bool true) rfl rfl (by kernel_rfl) (by kernel_rfl) ?_
  refine Wk.rPass 11 (some 27) rfl rfl (by kernel_rfl) ?_
  refine Wk.rPass 12 (some 28) rfl rfl (by kernel_rfl) ?_
  refine Wk.rPass 13 (some 29) rfl rfl (by kernel_rfl) ?_
  refine Wk.rPure 14 (some 30) (.bool true) rfl rfl (by kernel_rfl) (by kernel_rfl) ?_
  refine Wk.rEnd 15 rfl ?_
  refine Wk.nxt ?_
  refine wp_cond_true (by kernel_rfl) ?_
  refine wp_seq ?_
  refine Wk.reg ?_
  refine Wk.rCall 0 (some 31) 8 [] #[] [] rfl rfl (by kernel_rfl) rfl (by kernel_rfl) (by kernel_rfl) ?_
  refine (known_any w).mono ?_
  rintro _ W1 ⟨rfl, hB1⟩
  have ch1 := Wk.Chg.ofBelow hB1
  have zz1 := ch1.size
  refine ⟨_, rfl, ?_⟩
  refine Wk.rPure 1 (some 6) (.bool true) rfl rfl (by kernel_rfl) (by kernel_rfl) ?_
  refine Wk.rEnd 2 rfl ?_
  refine Wk.nxt ?_
  refine wp_ret ?_
  refine Wk.thR ?_
  have kk1 : Wk.Chg [] w W1 := Wk.Chg.step ((Wk.Chg.refl _).more (by simp)) ch1 trivial
  refine Wk.ret (.bool true) rfl (by kernel_rfl) ?_
  exact ⟨rfl, Wk.Chg.below0 kk1⟩
theorem once_no (most budget : Int) (A : Option Addr) (n c : Nat) (w : World) (hno : most < 0 ∨ 1000000 < most ∨ budget < 0 ∨ 1000000 < budget) :
    Calls Try.prog 5 #[.int .i64 most, .int .i64 budget, .slice A n c] w fun e w' => e = .returned (.bool true) ∧ Below w.heap.size w w' := by
  refine calls_of_wp Try.func5 rfl ?_
  refine wp_seq ?_
  refine Wk.reg ?_
  refine Wk.rPure 0 (some 6) (.bool false) rfl rfl (by kernel_rfl) (by kernel_rfl) ?_
  refine Wk.rEnd 1 rfl ?_
  refine Wk.nxt ?_
  refine wp_seq ?_
  refine Wk.reg ?_
  refine Wk.rPure 0 (some 17) (.int .i64 most) rfl rfl (by kernel_rfl) (by kernel_rfl) ?_
  refine Wk.rPure 1 (some 18) (.int .i64 budget) rfl rfl (by kernel_rfl) (by kernel_rfl) ?_
  refine Wk.rCall 2 (some 19) 7 [.tmp 17, .tmp 18] #[3, 3] [.int .i64 most, .int .i64 budget] rfl rfl (by kernel_rfl) rfl (by kernel_rfl) (by kernel_rfl) ?_
  refine (New_no most budget w hno).mono ?_
  rintro _ _ ⟨rfl, rfl⟩
  refine ⟨_, rfl, ?_⟩
  refine Wk.rPure 3 (some 7) (.pointer none) rfl rfl (by kernel_rfl) (by kernel_rfl) ?_
  refine Wk.rEnd 4 rfl ?_
  refine Wk.nxt ?_
  refine wp_seq ?_
  refine wp_seq ?_
  refine Wk.reg ?_
  refine Wk.rPure 0 (some 20) (.pointer none) rfl rfl (by kernel_rfl) (by kernel_rfl) ?_
  refine Wk.rPure 1 (some 21) (.bool true) rfl rfl (by kernel_rfl) (by kernel_rfl) ?_
  refine Wk.rPure 2 (some 22) (.bool true) rfl rfl (by kernel_rfl) (by kernel_rfl) ?_
  refine Wk.rPass 3 (some 23) rfl rfl (by kernel_rfl) ?_
  refine Wk.rPass 4 (some 24) rfl rfl (by kernel_rfl) ?_
  refine Wk.rPass 5 (some 25) rfl rfl (by kernel_rfl) ?_
  refine Wk.rPure 6 (some 26) (.bool true) rfl rfl (by kernel_rfl) (by kernel_rfl) ?_
  refine Wk.rEnd 7 rfl ?_
  refine Wk.nxt ?_
  refine wp_cond_true (by kernel_rfl) ?_
  refine wp_seq ?_
  refine Wk.reg ?_
  refine Wk.rCall 0 (some 27) 8 [] #[] [] rfl rfl (by kernel_rfl) rfl (by kernel_rfl) (by kernel_rfl) ?_
  refine (known_any w).mono ?_
  rintro _ W1 ⟨rfl, hB1⟩
  have ch1 := Wk.Chg.ofBelow hB1
  have zz1 := ch1.size
  refine ⟨_, rfl, ?_⟩
  refine Wk.rPure 1 (some 6) (.bool true) rfl rfl (by kernel_rfl) (by kernel_rfl) ?_
  refine Wk.rEnd 2 rfl ?_
  refine Wk.nxt ?_
  refine wp_ret ?_
  refine Wk.thR ?_
  have kk1 : Wk.Chg [] w W1 := Wk.Chg.step ((Wk.Chg.refl _).more (by simp)) ch1 trivial
  refine Wk.ret (.bool true) rfl (by kernel_rfl) ?_
  exact ⟨rfl, Wk.Chg.below0 kk1⟩
theorem waits_no (most budget : Int) (A B : Option Addr) (n c m d : Nat) (w : World) (hno : most < 0 ∨ 1000000 < most ∨ budget < 0 ∨ 1000000 < budget) :
    Calls Try.prog 6 #[.int .i64 most, .int .i64 budget, .slice A n c, .slice B m d] w fun e w' => e = .returned (.bool true) ∧ Below w.heap.size w w' := by
  refine calls_of_wp Try.func6 rfl ?_
  refine wp_seq ?_
  refine Wk.reg ?_
  refine Wk.rPure 0 (some 8) (.bool false) rfl rfl (by kernel_rfl) (by kernel_rfl) ?_
  refine Wk.rEnd 1 rfl ?_
  refine Wk.nxt ?_
  refine wp_seq ?_
  refine Wk.reg ?_
  refine Wk.rPure 0 (some 13) (.int .i64 most) rfl rfl (by kernel_rfl) (by kernel_rfl) ?_
  refine Wk.rPure 1 (some 14) (.int .i64 budget) rfl rfl (by kernel_rfl) (by kernel_rfl) ?_
  refine Wk.rCall 2 (some 15) 7 [.tmp 13, .tmp 14] #[3, 3] [.int .i64 most, .int .i64 budget] rfl rfl (by kernel_rfl) rfl (by kernel_rfl) (by kernel_rfl) ?_
  refine (New_no most budget w hno).mono ?_
  rintro _ _ ⟨rfl, rfl⟩
  refine ⟨_, rfl, ?_⟩
  refine Wk.rPure 3 (some 9) (.pointer none) rfl rfl (by kernel_rfl) (by kernel_rfl) ?_
  refine Wk.rEnd 4 rfl ?_
  refine Wk.nxt ?_
  refine wp_seq ?_
  refine wp_seq ?_
  refine Wk.reg ?_
  refine Wk.rPure 0 (some 16) (.pointer none) rfl rfl (by kernel_rfl) (by kernel_rfl) ?_
  refine Wk.rPure 1 (some 17) (.bool true) rfl rfl (by kernel_rfl) (by kernel_rfl) ?_
  refine Wk.rPure 2 (some 18) (.bool true) rfl rfl (by kernel_rfl) (by kernel_rfl) ?_
  refine Wk.rPass 3 (some 19) rfl rfl (by kernel_rfl) ?_
  refine Wk.rPass 4 (some 20) rfl rfl (by kernel_rfl) ?_
  refine Wk.rPure 5 (some 21) (.bool true) rfl rfl (by kernel_rfl) (by kernel_rfl) ?_
  refine Wk.rPure 6 (some 22) (.bool true) rfl rfl (by kernel_rfl) (by kernel_rfl) ?_
  refine Wk.rPass 7 (some 23) rfl rfl (by kernel_rfl) ?_
  refine Wk.rPass 8 (some 24) rfl rfl (by kernel_rfl) ?_
  refine Wk.rPass 9 (some 25) rfl rfl (by kernel_rfl) ?_
  refine Wk.rPure 10 (some 26) (.bool true) rfl rfl (by kernel_rfl) (by kernel_rfl) ?_
  refine Wk.rPure 11 (some 27) (.bool true) rfl rfl (by kernel_rfl) (by kernel_rfl) ?_
  refine Wk.rPass 12 (some 28) rfl rfl (by kernel_rfl) ?_
  refine Wk.rPass 13 (some 29) rfl rfl (by kernel_rfl) ?_
  refine Wk.rPass 14 (some 30) rfl rfl (by kernel_rfl) ?_
  refine Wk.rPass 15 (some 31) rfl rfl (by kernel_rfl) ?_
  refine Wk.rPass 16 (some 32) rfl rfl (by kernel_rfl) ?_
  refine Wk.rPure 17 (some 33) (.bool true) rfl rfl (by kernel_rfl) (by kernel_rfl) ?_
  refine Wk.rEnd 18 rfl ?_
  refine Wk.nxt ?_
  refine wp_cond_true (by kernel_rfl) ?_
  refine wp_seq ?_
  refine Wk.reg ?_
  refine Wk.rCall 0 (some 34) 8 [] #[] [] rfl rfl (by kernel_rfl) rfl (by kernel_rfl) (by kernel_rfl) ?_
  refine (known_any w).mono ?_
  rintro _ W1 ⟨rfl, hB1⟩
  have ch1 := Wk.Chg.ofBelow hB1
  have zz1 := ch1.size
  refine ⟨_, rfl, ?_⟩
  refine Wk.rPure 1 (some 8) (.bool true) rfl rfl (by kernel_rfl) (by kernel_rfl) ?_
  refine Wk.rEnd 2 rfl ?_
  refine Wk.nxt ?_
  refine wp_ret ?_
  refine Wk.thR ?_
  have kk1 : Wk.Chg [] w W1 := Wk.Chg.step ((Wk.Chg.refl _).more (by simp)) ch1 trivial
  refine Wk.ret (.bool true) rfl (by kernel_rfl) ?_
  exact ⟨rfl, Wk.Chg.below0 kk1⟩
end Go.Proofs.Ytidhohnhhhooaaa
