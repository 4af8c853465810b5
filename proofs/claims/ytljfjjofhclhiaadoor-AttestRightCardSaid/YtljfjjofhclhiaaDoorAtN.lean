/- AttestRight, walked. -/
import Derived.Test.YtljfjjofhclhiaaDoorAtD
namespace Go.Proofs.YtljfjjofhclhiaaDoor
open Go.RowKit
open Mur (b8s Byt Own8 Seg Segs flat cutA attC)
set_option maxRecDepth 100000
set_option maxHeartbeats 4000000
theorem rights_any (s : List UInt8) (A : Option Addr) (m c : Nat) (k1 r1 t1 : List UInt8) (n1 : Int) (hk1 : k1.length = 32) (hr1 : r1.length = 32) (ht1 : t1.length = 32) (hwn1 : (Lit.int .i64 n1).wf = true) (w : World) (hv : ShaVars w) (hb : Byt w A m s) (hnc : m ≤ c) (ha : A = none → c = 0) : Calls Tryd.prog 7 #[.slice A m c, .agg (attC k1 r1 n1 t1).toArray] w fun e w' => e = .returned (.bool true) ∧ Below w.heap.size w w' := by
  have HV := Go.Lib.hid hv
  clear hv
  have HBY := Go.Lib.hid hb
  clear hb
  have HA := Go.Lib.hid ha
  clear ha
  refine calls_of_wp Tryd.func7 rfl ?_
  refine wp_seq ?_
  refine Wk.reg ?_
  refine Wk.rEx 0 (some 3) _ rfl rfl (by kernel_rfl) (Wk.new_ex (.pointer (some ⟨w.heap.size, 0, none⟩)) ((Mur.attC k1 r1 n1 t1).toArray) 36 (by kernel_rfl)) ?_
  rintro _ W1 ⟨rfl, hb1, ch1, sz1⟩
  have zz1 := ch1.size
  refine Wk.rPure 1 (some 4) (.bool false) rfl rfl (by kernel_rfl) (by kernel_rfl) ?_
  refine Wk.rEnd 2 rfl ?_
  refine Wk.nxt ?_
  refine wp_seq ?_
  refine wp_seq ?_
  refine Wk.reg ?_
  refine Wk.rPure 0 (some 6) (.slice A m c) rfl rfl (by kernel_rfl) (by kernel_rfl) ?_
  refine Wk.rPure 1 (some 7) (.int .i64 ((m : Nat) : Int)) rfl rfl (by kernel_rfl) (by kernel_rfl) ?_
  by_cases hx1 : ((m : Nat) : Int) > (300 : Int)
  · refine Wk.rPure 2 (some 8) (.bool true) rfl rfl (by kernel_rfl) (Wk.boolT (b := decide (((m : Nat) : Int) > (300 : Int))) (decide_eq_true (by first | exact hx1 | omega)) (by kernel_rfl)) ?_
    refine Wk.rEnd 3 rfl ?_
    refine Wk.nxt ?_
    refine wp_cond_true (by kernel_rfl) ?_
    refine wp_seq ?_
    refine Wk.reg ?_
    refine Wk.rCall 0 (some 9) 17 [] #[] [] rfl rfl (by kernel_rfl) rfl (by kernel_rfl) (by kernel_rfl) ?_
    have kk1 : Wk.Chg [] w W1 := Wk.Chg.step ((Wk.Chg.refl _).more (by simp)) ch1 trivial
    refine (known9_any W1 (HV.out.below (Wk.Chg.below0 kk1))).mono ?_
    rintro _ W2 ⟨rfl, ch2⟩
    have zz2 := ch2.size
    refine ⟨_, rfl, ?_⟩
    refine Wk.rPure 1 (some 4) (.bool true) rfl rfl (by kernel_rfl) (by kernel_rfl) ?_
    refine Wk.rEnd 2 rfl ?_
    refine Wk.nxt ?_
    refine wp_ret ?_
    refine Wk.thR ?_
    have kk2 := Wk.Chg.step kk1 ch2 trivial
    refine Wk.ret (.bool true) rfl (by kernel_rfl) ?_
    exact ⟨rfl, Wk.Chg.below0 kk2⟩
  · refine Wk.rPure 2 (some 8) (.bool false) rfl rfl (by kernel_rfl) (Wk.boolF (b := decide (((m : Nat) : Int) > (300 : Int))) (decide_eq_false (by first | exact hx1 | omega)) (by kernel_rfl)) ?_
    refine Wk.rEnd 3 rfl ?_
    refine Wk.nxt ?_
    refine wp_cond_false (by kernel_rfl) ?_
    refine wp_skip ?_
    refine Wk.nxt ?_
    refine wp_seq ?_
    refine Wk.dReg ([]) (by kernel_rfl) ?_
    intro W3 ch3 sz2
    have zz3 := ch3.size
    have sS1 : Wk.Chg ([]) W3 W3 := (Wk.Chg.refl _).more (by simp)
    refine Wk.dVal 0 (some 10) (.agg ((Mur.attC k1 r1 n1 t1).toArray)) rfl rfl (by kernel_rfl) (by kernel_rfl) (by kernel_rfl) (fun _ _ _ h => h) (by kernel_rfl) (fun w' hw' => (Mur.loadArr 36 (.tmp 3) rfl _ Tryd.underlying36 rfl w.heap.size (by kernel_rfl) (Mur.attC k1 r1 n1 t1).toArray 97 (Mur.attC_size hk1 hr1 ht1) (by kernel_rfl) 36 (0, 0) (Wk.Chg.hp hw' (Wk.Chg.hp ch3 hb1 trivial) trivial))) sS1 ?_
    refine Wk.dOp 1 (by kernel_rfl) ?_
    refine Wk.oCall (some 11) 21 [.tmp 10] #[36] [.agg ((Mur.attC k1 r1 n1 t1).toArray)] rfl rfl (by kernel_rfl) rfl (by kernel_rfl) (by kernel_rfl) ?_
    by_cases hmay1 : Mur.may n1
    · have hmay1u : 1 ≤ n1 ∧ n1 ≤ 5000 := hmay1
      refine (Rmay_any k1 r1 t1 n1 hk1 hr1 ht1 W3).mono ?_
      rw [decide_eq_true (hmay1 : Mur.may n1)]
      rintro _ W4 ⟨rfl, ch4⟩
      have zz4 := ch4.size
      have sS2 := Wk.Chg.step sS1 ch4 trivial
      refine ⟨_, rfl, sS2, ?_⟩
      refine Wk.dVal 2 (some 12) (.bool true) rfl rfl (by kernel_rfl) (by kernel_rfl) (by kernel_rfl) (fun _ _ _ h => h) (by kernel_rfl) (fun w' hw' => by kernel_rfl) sS2 ?_
      refine Wk.dVal 3 (some 13) (.agg ((Mur.attC k1 r1 n1 t1).toArray)) rfl rfl (by kernel_rfl) (by kernel_rfl) (by kernel_rfl) (fun _ _ _ h => h) (by kernel_rfl) (fun w' hw' => (Mur.loadArr 36 (.tmp 3) rfl _ Tryd.underlying36 rfl w.heap.size (by kernel_rfl) (Mur.attC k1 r1 n1 t1).toArray 97 (Mur.attC_size hk1 hr1 ht1) (by kernel_rfl) 36 (0, 0) (Wk.Chg.hp hw' (Wk.Chg.hp ch3 hb1 trivial) trivial))) sS2 ?_
      refine Wk.dVal 4 (some 14) (.slice A m c) rfl rfl (by kernel_rfl) (by kernel_rfl) (by kernel_rfl) (fun _ _ _ h => h) (by kernel_rfl) (fun w' hw' => by kernel_rfl) sS2 ?_
      refine Wk.dVal 5 (some 15) (.pointer (some ⟨w.heap.size, 0, none⟩)) rfl rfl (by kernel_rfl) (by kernel_rfl) (by kernel_rfl) (fun _ _ _ h => h) (by kernel_rfl) (fun w' hw' => by kernel_rfl) sS2 ?_
      refine Wk.dVal 6 (some 16) (.agg ((b8s k1).toArray)) rfl rfl (by kernel_rfl) (by kernel_rfl) (by kernel_rfl) (fun _ _ _ h => h) (by kernel_rfl) (fun w' hw' => (Wk.loadR 25 (.tmp 15) rfl _ Tryd.underlying25 rfl w.heap.size 0 (by kernel_rfl) (b8s k1) (by rw [Mur.b8s_length, hk1]; kernel_rfl) (Mur.att_key (Wk.Chg.hp hw' (Wk.Chg.hp ch3 hb1 trivial) trivial)))) sS2 ?_
      refine Wk.dVal 7 (some 17) (.pointer (some ⟨w.heap.size, 32, none⟩)) rfl rfl (by kernel_rfl) (by kernel_rfl) (by kernel_rfl) (fun _ _ _ h => h) (by kernel_rfl) (fun w' hw' => by kernel_rfl) sS2 ?_
      refine Wk.dVal 8 (some 18) (.agg ((b8s r1).toArray)) rfl rfl (by kernel_rfl) (by kernel_rfl) (by kernel_rfl) (fun _ _ _ h => h) (by kernel_rfl) (fun w' hw' => (Wk.loadR 25 (.tmp 17) rfl _ Tryd.underlying25 rfl w.heap.size 32 (by kernel_rfl) (b8s r1) (by rw [Mur.b8s_length, hr1]; kernel_rfl) (Mur.att_root hk1 (Wk.Chg.hp hw' (Wk.Chg.hp ch3 hb1 trivial) trivial)))) sS2 ?_
      refine Wk.dVal 9 (some 19) (.pointer (some ⟨w.heap.size, 64, none⟩)) rfl rfl (by kernel_rfl) (by kernel_rfl) (by kernel_rfl) (fun _ _ _ h => h) (by kernel_rfl) (fun w' hw' => by kernel_rfl) sS2 ?_
      refine Wk.dVal 10 (some 20) (.int .i64 n1) rfl rfl (by kernel_rfl) (by kernel_rfl) (by kernel_rfl) (fun _ _ _ h => h) (by kernel_rfl) (fun w' hw' => (Wk.load1 3 (.tmp 19) rfl (by kernel_rfl) ⟨w.heap.size, 64, none⟩ (by kernel_rfl) (.int .i64 n1) (Mur.att_len hk1 hr1 (Wk.Chg.hp hw' (Wk.Chg.hp ch3 hb1 trivial) trivial)))) sS2 ?_
      refine Wk.dOp 11 (by kernel_rfl) ?_
      refine Wk.oCall (some 21) 19 [.tmp 14, .tmp 16, .tmp 18, .tmp 20] #[22, 25, 25, 3] [.slice A m c, .agg ((b8s k1).toArray), .agg ((b8s r1).toArray), .int .i64 n1] rfl rfl (by kernel_rfl) rfl (by kernel_rfl) (by kernel_rfl) ?_
      have kk3 : Wk.Chg [] w W1 := Wk.Chg.step ((Wk.Chg.refl _).more (by simp)) ch1 trivial
      have kk4 := Wk.Chg.step kk3 ch3 trivial
      have kk5 := Wk.Chg.step kk4 ch4 trivial
      refine (Rmake_any s A m c k1 r1 n1 hk1 hr1 W4 (Mur.byt_chg HBY.out kk5 (fun g off e hl => trivial)) (by omega) HA.out (by omega)).mono ?_
      rintro _ W5 ⟨dd1, hd1, hdl1, rfl, ch5⟩
      have zz5 := ch5.size
      have sS3 := Wk.Chg.step sS2 ch5 trivial
      refine ⟨_, rfl, sS3, ?_⟩
      by_cases hteq1 : t1 = dd1
      · refine Wk.dVal 12 (some 22) (.bool true) rfl rfl (by kernel_rfl) (by kernel_rfl) (by kernel_rfl) (fun _ _ _ h => h) (by kernel_rfl) (fun w' hw' => (Wk.boolT (b := decide (k1 = k1 ∧ r1 = r1 ∧ n1 = n1 ∧ t1 = dd1)) (decide_eq_true (⟨rfl, rfl, rfl, hteq1⟩)) (run_eql_att (.tmp 13) (.tmp 21) 36 rfl hk1 hr1 ht1 hk1 hr1 hdl1 hwn1 hwn1 (by kernel_rfl) (by kernel_rfl)))) sS3 ?_
        refine Wk.dVal 13 (some 23) (.bool true) rfl rfl (by kernel_rfl) (by kernel_rfl) (by kernel_rfl) (fun _ _ _ h => h) (by kernel_rfl) (fun w' hw' => by kernel_rfl) sS3 ?_
        refine Wk.dVal 14 (some 5) (.bool true) rfl rfl (by kernel_rfl) (by kernel_rfl) (by kernel_rfl) (fun _ _ _ h => h) (by kernel_rfl) (fun w' hw' => by kernel_rfl) sS3 ?_
        refine Wk.dEnd (by kernel_rfl) ?_
        refine Wk.nxt ?_
        refine wp_seq ?_
        refine Wk.reg ?_
        refine Wk.rPure 0 (some 24) (.slice A m c) rfl rfl (by kernel_rfl) (by kernel_rfl) ?_
        refine Wk.rPure 1 (some 25) (.agg ((Mur.attC k1 r1 n1 t1).toArray)) rfl rfl (by kernel_rfl) (Mur.loadArr 36 (.tmp 3) rfl _ Tryd.underlying36 rfl w.heap.size (by kernel_rfl) (Mur.attC k1 r1 n1 t1).toArray 97 (Mur.attC_size hk1 hr1 ht1) (by kernel_rfl) 36 (0, 0) (Wk.Chg.hp ch5 (Wk.Chg.hp ch4 (Wk.Chg.hp ch3 hb1 trivial) trivial) trivial)) ?_
        refine Wk.rCall 2 (some 26) 20 [.tmp 24, .tmp 25] #[22, 36] [.slice A m c, .agg ((Mur.attC k1 r1 n1 t1).toArray)] rfl rfl (by kernel_rfl) rfl (by kernel_rfl) (by kernel_rfl) ?_
        have kk6 := Wk.Chg.step kk5 ch5 trivial
        refine (Right_any s A m c k1 r1 t1 n1 hk1 hr1 ht1 W5 (HV.out.below (Wk.Chg.below0 kk6)) (Mur.byt_chg HBY.out kk6 (fun g off e hl => trivial)) (by omega) HA.out (by omega)).mono ?_
        rintro _ W6 ⟨dr1, hd2, rfl, ch6⟩
        have zz6 := ch6.size
        rw [decide_eq_true (⟨hmay1, hteq1.trans (hd1.out.trans hd2.out.symm)⟩ : Mur.may n1 ∧ t1 = dr1)]
        refine ⟨_, rfl, ?_⟩
        refine Wk.rPure 3 (some 27) (.bool true) rfl rfl (by kernel_rfl) (by kernel_rfl) ?_
        refine Wk.rPure 4 (some 28) (.bool true) rfl rfl (by kernel_rfl) (by kernel_rfl) ?_
        refine Wk.rPure 5 (some 29) (.bool true) rfl rfl (by kernel_rfl) (by kernel_rfl) ?_
        refine Wk.rCall 6 (some 30) 17 [] #[] [] rfl rfl (by kernel_rfl) rfl (by kernel_rfl) (by kernel_rfl) ?_
        have kk7 := Wk.Chg.step kk6 ch6 trivial
        refine (known9_any W6 (HV.out.below (Wk.Chg.below0 kk7))).mono ?_
        rintro _ W7 ⟨rfl, ch7⟩
        have zz7 := ch7.size
        refine ⟨_, rfl, ?_⟩
        refine Wk.rPure 7 (some 31) (.bool true) rfl rfl (by kernel_rfl) (by kernel_rfl) ?_
        refine Wk.rPure 8 (some 4) (.bool true) rfl rfl (by kernel_rfl) (by kernel_rfl) ?_
        refine Wk.rEnd 9 rfl ?_
        refine Wk.nxt ?_
        refine wp_ret ?_
        have kk8 := Wk.Chg.step kk7 ch7 trivial
        refine Wk.ret (.bool true) rfl (by kernel_rfl) ?_
        exact ⟨rfl, Wk.Chg.below0 kk8⟩
      · refine Wk.dVal 12 (some 22) (.bool false) rfl rfl (by kernel_rfl) (by kernel_rfl) (by kernel_rfl) (fun _ _ _ h => h) (by kernel_rfl) (fun w' hw' => (Wk.boolF (b := decide (k1 = k1 ∧ r1 = r1 ∧ n1 = n1 ∧ t1 = dd1)) (decide_eq_false (fun q => hteq1 q.2.2.2)) (run_eql_att (.tmp 13) (.tmp 21) 36 rfl hk1 hr1 ht1 hk1 hr1 hdl1 hwn1 hwn1 (by kernel_rfl) (by kernel_rfl)))) sS3 ?_
        refine Wk.dVal 13 (some 23) (.bool false) rfl rfl (by kernel_rfl) (by kernel_rfl) (by kernel_rfl) (fun _ _ _ h => h) (by kernel_rfl) (fun w' hw' => by kernel_rfl) sS3 ?_
        refine Wk.dVal 14 (some 5) (.bool false) rfl rfl (by kernel_rfl) (by kernel_rfl) (by kernel_rfl) (fun _ _ _ h => h) (by kernel_rfl) (fun w' hw' => by kernel_rfl) sS3 ?_
        refine Wk.dEnd (by kernel_rfl) ?_
        refine Wk.nxt ?_
        refine wp_seq ?_
        refine Wk.reg ?_
        refine Wk.rPure 0 (some 24) (.slice A m c) rfl rfl (by kernel_rfl) (by kernel_rfl) ?_
        refine Wk.rPure 1 (some 25) (.agg ((Mur.attC k1 r1 n1 t1).toArray)) rfl rfl (by kernel_rfl) (Mur.loadArr 36 (.tmp 3) rfl _ Tryd.underlying36 rfl w.heap.size (by kernel_rfl) (Mur.attC k1 r1 n1 t1).toArray 97 (Mur.attC_size hk1 hr1 ht1) (by kernel_rfl) 36 (0, 0) (Wk.Chg.hp ch5 (Wk.Chg.hp ch4 (Wk.Chg.hp ch3 hb1 trivial) trivial) trivial)) ?_
        refine Wk.rCall 2 (some 26) 20 [.tmp 24, .tmp 25] #[22, 36] [.slice A m c, .agg ((Mur.attC k1 r1 n1 t1).toArray)] rfl rfl (by kernel_rfl) rfl (by kernel_rfl) (by kernel_rfl) ?_
        have kk9 := Wk.Chg.step kk5 ch5 trivial
        refine (Right_any s A m c k1 r1 t1 n1 hk1 hr1 ht1 W5 (HV.out.below (Wk.Chg.below0 kk9)) (Mur.byt_chg HBY.out kk9 (fun g off e hl => trivial)) (by omega) HA.out (by omega)).mono ?_
        rintro _ W8 ⟨dr2, hd3, rfl, ch8⟩
        have zz8 := ch8.size
        rw [decide_eq_false (fun q => hteq1 (q.2.trans (hd1.out.trans hd3.out.symm).symm) : ¬ (Mur.may n1 ∧ t1 = dr2))]
        refine ⟨_, rfl, ?_⟩
        refine Wk.rPure 3 (some 27) (.bool false) rfl rfl (by kernel_rfl) (by kernel_rfl) ?_
        refine Wk.rPure 4 (some 28) (.bool true) rfl rfl (by kernel_rfl) (by kernel_rfl) ?_
        refine Wk.rPure 5 (some 29) (.bool true) rfl rfl (by kernel_rfl) (by kernel_rfl) ?_
        refine Wk.rCall 6 (some 30) 17 [] #[] [] rfl rfl (by kernel_rfl) rfl (by kernel_rfl) (by kernel_rfl) ?_
        have kk10 := Wk.Chg.step kk9 ch8 trivial
        refine (known9_any W8 (HV.out.below (Wk.Chg.below0 kk10))).mono ?_
        rintro _ W9 ⟨rfl, ch9⟩
        have zz9 := ch9.size
        refine ⟨_, rfl, ?_⟩
        refine Wk.rPure 7 (some 31) (.bool true) rfl rfl (by kernel_rfl) (by kernel_rfl) ?_
        refine Wk.rPure 8 (some 4) (.bool true) rfl rfl (by kernel_rfl) (by kernel_rfl) ?_
        refine Wk.rEnd 9 rfl ?_
        refine Wk.nxt ?_
        refine wp_ret ?_
        have kk11 := Wk.Chg.step kk10 ch9 trivial
        refine Wk.ret (.bool true) rfl (by kernel_rfl) ?_
        exact ⟨rfl, Wk.Chg.below0 kk11⟩
    · have hmay1u : ¬ (1 ≤ n1 ∧ n1 ≤ 5000) := hmay1
      refine (Rmay_any k1 r1 t1 n1 hk1 hr1 ht1 W3).mono ?_
      rw [decide_eq_false (hmay1 : ¬ Mur.may n1)]
      rintro _ W4 ⟨rfl, ch4⟩
      have zz10 := ch4.size
      have sS4 := Wk.Chg.step sS1 ch4 trivial
      refine ⟨_, rfl, sS4, ?_⟩
      refine Wk.dVal 2 (some 12) (.bool false) rfl rfl (by kernel_rfl) (by kernel_rfl) (by kernel_rfl) (fun _ _ _ h => h) (by kernel_rfl) (fun w' hw' => by kernel_rfl) sS4 ?_
      refine Wk.dPass 3 (some 13) rfl rfl (by kernel_rfl) (by kernel_rfl) (by kernel_rfl) (fun _ _ _ h => h) (by kernel_rfl) sS4 ?_
      refine Wk.dPass 4 (some 14) rfl rfl (by kernel_rfl) (by kernel_rfl) (by kernel_rfl) (fun _ _ _ h => h) (by kernel_rfl) sS4 ?_
      refine Wk.dPass 5 (some 15) rfl rfl (by kernel_rfl) (by kernel_rfl) (by kernel_rfl) (fun _ _ _ h => h) (by kernel_rfl) sS4 ?_
      refine Wk.dPass 6 (some 16) rfl rfl (by kernel_rfl) (by kernel_rfl) (by kernel_rfl) (fun _ _ _ h => h) (by kernel_rfl) sS4 ?_
      refine Wk.dPass 7 (some 17) rfl rfl (by kernel_rfl) (by kernel_rfl) (by kernel_rfl) (fun _ _ _ h => h) (by kernel_rfl) sS4 ?_
      refine Wk.dPass 8 (some 18) rfl rfl (by kernel_rfl) (by kernel_rfl) (by kernel_rfl) (fun _ _ _ h => h) (by kernel_rfl) sS4 ?_
      refine Wk.dPass 9 (some 19) rfl rfl (by kernel_rfl) (by kernel_rfl) (by kernel_rfl) (fun _ _ _ h => h) (by kernel_rfl) sS4 ?_
      refine Wk.dPass 10 (some 20) rfl rfl (by kernel_rfl) (by kernel_rfl) (by kernel_rfl) (fun _ _ _ h => h) (by kernel_rfl) sS4 ?_
      refine Wk.dPass 11 (some 21) rfl rfl (by kernel_rfl) (by kernel_rfl) (by kernel_rfl) (fun _ _ _ h => h) (by kernel_rfl) sS4 ?_
      refine Wk.dPass 12 (some 22) rfl rfl (by kernel_rfl) (by kernel_rfl) (by kernel_rfl) (fun _ _ _ h => h) (by kernel_rfl) sS4 ?_
      refine Wk.dVal 13 (some 23) (.bool false) rfl rfl (by kernel_rfl) (by kernel_rfl) (by kernel_rfl) (fun _ _ _ h => h) (by kernel_rfl) (fun w' hw' => by kernel_rfl) sS4 ?_
      refine Wk.dVal 14 (some 5) (.bool false) rfl rfl (by kernel_rfl) (by kernel_rfl) (by kernel_rfl) (fun _ _ _ h => h) (by kernel_rfl) (fun w' hw' => by kernel_rfl) sS4 ?_
      refine Wk.dEnd (by kernel_rfl) ?_
      refine Wk.nxt ?_
      refine wp_seq ?_
      refine Wk.reg ?_
      refine Wk.rPure 0 (some 24) (.slice A m c) rfl rfl (by kernel_rfl) (by kernel_rfl) ?_
      refine Wk.rPure 1 (some 25) (.agg ((Mur.attC k1 r1 n1 t1).toArray)) rfl rfl (by kernel_rfl) (Mur.loadArr 36 (.tmp 3) rfl _ Tryd.underlying36 rfl w.heap.size (by kernel_rfl) (Mur.attC k1 r1 n1 t1).toArray 97 (Mur.attC_size hk1 hr1 ht1) (by kernel_rfl) 36 (0, 0) (Wk.Chg.hp ch4 (Wk.Chg.hp ch3 hb1 trivial) trivial)) ?_
      refine Wk.rCall 2 (some 26) 20 [.tmp 24, .tmp 25] #[22, 36] [.slice A m c, .agg ((Mur.attC k1 r1 n1 t1).toArray)] rfl rfl (by kernel_rfl) rfl (by kernel_rfl) (by kernel_rfl) ?_
      have kk12 : Wk.Chg [] w W1 := Wk.Chg.step ((Wk.Chg.refl _).more (by simp)) ch1 trivial
      have kk13 := Wk.Chg.step kk12 ch3 trivial
      have kk14 := Wk.Chg.step kk13 ch4 trivial
      refine (Right_any s A m c k1 r1 t1 n1 hk1 hr1 ht1 W4 (HV.out.below (Wk.Chg.below0 kk14)) (Mur.byt_chg HBY.out kk14 (fun g off e hl => trivial)) (by omega) HA.out (by omega)).mono ?_
      rintro _ W10 ⟨dr3, hd4, rfl, ch10⟩
      have zz11 := ch10.size
      rw [decide_eq_false (fun q => hmay1 q.1 : ¬ (Mur.may n1 ∧ t1 = dr3))]
      refine ⟨_, rfl, ?_⟩
      refine Wk.rPure 3 (some 27) (.bool false) rfl rfl (by kernel_rfl) (by kernel_rfl) ?_
      refine Wk.rPure 4 (some 28) (.bool true) rfl rfl (by kernel_rfl) (by kernel_rfl) ?_
      refine Wk.rPure 5 (some 29) (.bool true) rfl rfl (by kernel_rfl) (by kernel_rfl) ?_
      refine Wk.rCall 6 (some 30) 17 [] #[] [] rfl rfl (by kernel_rfl) rfl (by kernel_rfl) (by kernel_rfl) ?_
      have kk15 := Wk.Chg.step kk14 ch10 trivial
      refine (known9_any W10 (HV.out.below (Wk.Chg.below0 kk15))).mono ?_
      rintro _ W11 ⟨rfl, ch11⟩
      have zz12 := ch11.size
      refine ⟨_, rfl, ?_⟩
      refine Wk.rPure 7 (some 31) (.bool true) rfl rfl (by kernel_rfl) (by kernel_rfl) ?_
      refine Wk.rPure 8 (some 4) (.bool true) rfl rfl (by kernel_rfl) (by kernel_rfl) ?_
      refine Wk.rEnd 9 rfl ?_
      refine Wk.nxt ?_
      refine wp_ret ?_
      have kk16 := Wk.Chg.step kk15 ch11 trivial
      refine Wk.ret (.bool true) rfl (by kernel_rfl) ?_
      exact ⟨rfl, Wk.Chg.below0 kk16⟩
end Go.Proofs.YtljfjjofhclhiaaDoor
