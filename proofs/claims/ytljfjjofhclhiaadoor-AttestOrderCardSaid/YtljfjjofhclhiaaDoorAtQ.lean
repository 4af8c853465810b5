/- AttestOrder, walked. -/
import Derived.Test.YtljfjjofhclhiaaDoorAtK
import Derived.Test.YtljfjjofhclhiaaDoorAtD
namespace Go.Proofs.YtljfjjofhclhiaaDoor
open Go.RowKit
open Mur (b8s Byt Own8 Seg Segs flat cutA attC)
set_option maxRecDepth 100000
set_option maxHeartbeats 4000000
theorem order_any (k1 r1 t1 : List UInt8) (n1 : Int) (hk1 : k1.length = 32) (hr1 : r1.length = 32) (ht1 : t1.length = 32) (hwn1 : (Lit.int .i64 n1).wf = true) (k2 r2 t2 : List UInt8) (n2 : Int) (hk2 : k2.length = 32) (hr2 : r2.length = 32) (ht2 : t2.length = 32) (hwn2 : (Lit.int .i64 n2).wf = true) (k3 r3 t3 : List UInt8) (n3 : Int) (hk3 : k3.length = 32) (hr3 : r3.length = 32) (ht3 : t3.length = 32) (_hwn3 : (Lit.int .i64 n3).wf = true) (w : World) (hv : ShaVars w) : Calls Tryd.prog 10 #[.agg (attC k1 r1 n1 t1).toArray, .agg (attC k2 r2 n2 t2).toArray, .agg (attC k3 r3 n3 t3).toArray] w fun e w' => e = .returned (.bool true) ∧ Below w.heap.size w w' := by
  have HV := Go.Lib.hid hv
  clear hv
  refine calls_of_wp Tryd.func10 rfl ?_
  refine wp_seq ?_
  refine Wk.reg ?_
  refine Wk.rEx 0 (some 3) _ rfl rfl (by kernel_rfl) (Wk.new_ex (.pointer (some ⟨w.heap.size, 0, none⟩)) ((Mur.attC k1 r1 n1 t1).toArray) 36 (by kernel_rfl)) ?_
  rintro _ W1 ⟨rfl, hb1, ch1, sz1⟩
  have zz1 := ch1.size
  refine Wk.rEx 1 (some 4) _ rfl rfl (by kernel_rfl) (Wk.new_ex (.pointer (some ⟨W1.heap.size, 0, none⟩)) ((Mur.attC k2 r2 n2 t2).toArray) 36 (by kernel_rfl)) ?_
  rintro _ W2 ⟨rfl, hb2, ch2, sz2⟩
  have zz2 := ch2.size
  refine Wk.rEx 2 (some 5) _ rfl rfl (by kernel_rfl) (Wk.new_ex (.pointer (some ⟨W2.heap.size, 0, none⟩)) ((Mur.attC k3 r3 n3 t3).toArray) 36 (by kernel_rfl)) ?_
  rintro _ W3 ⟨rfl, hb3, ch3, sz3⟩
  have zz3 := ch3.size
  refine Wk.rPure 3 (some 6) (.bool false) rfl rfl (by kernel_rfl) (by kernel_rfl) ?_
  refine Wk.rEnd 4 rfl ?_
  refine Wk.nxt ?_
  refine wp_seq ?_
  refine Wk.dReg ([]) (by kernel_rfl) ?_
  intro W4 ch4 sz4
  have zz4 := ch4.size
  have sS1 : Wk.Chg ([]) W4 W4 := (Wk.Chg.refl _).more (by simp)
  refine Wk.dVal 0 (some 11) (.agg ((Mur.attC k1 r1 n1 t1).toArray)) rfl rfl (by kernel_rfl) (by kernel_rfl) (by kernel_rfl) (fun _ _ _ h => h) (by kernel_rfl) (fun w' hw' => (Mur.loadArr 36 (.tmp 3) rfl _ Tryd.underlying36 rfl w.heap.size (by kernel_rfl) (Mur.attC k1 r1 n1 t1).toArray 97 (Mur.attC_size hk1 hr1 ht1) (by kernel_rfl) 36 (0, 0) (Wk.Chg.hp hw' (Wk.Chg.hp ch4 (Wk.Chg.hp ch3 (Wk.Chg.hp ch2 hb1 trivial) trivial) trivial) trivial))) sS1 ?_
  refine Wk.dVal 1 (some 12) (.agg ((Mur.attC k2 r2 n2 t2).toArray)) rfl rfl (by kernel_rfl) (by kernel_rfl) (by kernel_rfl) (fun _ _ _ h => h) (by kernel_rfl) (fun w' hw' => (Mur.loadArr 36 (.tmp 4) rfl _ Tryd.underlying36 rfl W1.heap.size (by kernel_rfl) (Mur.attC k2 r2 n2 t2).toArray 97 (Mur.attC_size hk2 hr2 ht2) (by kernel_rfl) 36 (0, 0) (Wk.Chg.hp hw' (Wk.Chg.hp ch4 (Wk.Chg.hp ch3 hb2 trivial) trivial) trivial))) sS1 ?_
  refine Wk.dVal 3 (some 14) (.agg ((Mur.attC k2 r2 n2 t2).toArray)) rfl rfl (by kernel_rfl) (by kernel_rfl) (by kernel_rfl) (fun _ _ _ h => h) (by kernel_rfl) (fun w' hw' => (Mur.loadArr 36 (.tmp 4) rfl _ Tryd.underlying36 rfl W1.heap.size (by kernel_rfl) (Mur.attC k2 r2 n2 t2).toArray 97 (Mur.attC_size hk2 hr2 ht2) (by kernel_rfl) 36 (0, 0) (Wk.Chg.hp hw' (Wk.Chg.hp ch4 (Wk.Chg.hp ch3 hb2 trivial) trivial) trivial))) sS1 ?_
  refine Wk.dVal 4 (some 15) (.agg ((Mur.attC k1 r1 n1 t1).toArray)) rfl rfl (by kernel_rfl) (by kernel_rfl) (by kernel_rfl) (fun _ _ _ h => h) (by kernel_rfl) (fun w' hw' => (Mur.loadArr 36 (.tmp 3) rfl _ Tryd.underlying36 rfl w.heap.size (by kernel_rfl) (Mur.attC k1 r1 n1 t1).toArray 97 (Mur.attC_size hk1 hr1 ht1) (by kernel_rfl) 36 (0, 0) (Wk.Chg.hp hw' (Wk.Chg.hp ch4 (Wk.Chg.hp ch3 (Wk.Chg.hp ch2 hb1 trivial) trivial) trivial) trivial))) sS1 ?_
  refine Wk.dVal 6 (some 17) (.agg ((Mur.attC k2 r2 n2 t2).toArray)) rfl rfl (by kernel_rfl) (by kernel_rfl) (by kernel_rfl) (fun _ _ _ h => h) (by kernel_rfl) (fun w' hw' => (Mur.loadArr 36 (.tmp 4) rfl _ Tryd.underlying36 rfl W1.heap.size (by kernel_rfl) (Mur.attC k2 r2 n2 t2).toArray 97 (Mur.attC_size hk2 hr2 ht2) (by kernel_rfl) 36 (0, 0) (Wk.Chg.hp hw' (Wk.Chg.hp ch4 (Wk.Chg.hp ch3 hb2 trivial) trivial) trivial))) sS1 ?_
  refine Wk.dVal 7 (some 18) (.agg ((Mur.attC k3 r3 n3 t3).toArray)) rfl rfl (by kernel_rfl) (by kernel_rfl) (by kernel_rfl) (fun _ _ _ h => h) (by kernel_rfl) (fun w' hw' => (Mur.loadArr 36 (.tmp 5) rfl _ Tryd.underlying36 rfl W2.heap.size (by kernel_rfl) (Mur.attC k3 r3 n3 t3).toArray 97 (Mur.attC_size hk3 hr3 ht3) (by kernel_rfl) 36 (0, 0) (Wk.Chg.hp hw' (Wk.Chg.hp ch4 hb3 trivial) trivial))) sS1 ?_
  refine Wk.dVal 9 (some 20) (.agg ((Mur.attC k1 r1 n1 t1).toArray)) rfl rfl (by kernel_rfl) (by kernel_rfl) (by kernel_rfl) (fun _ _ _ h => h) (by kernel_rfl) (fun w' hw' => (Mur.loadArr 36 (.tmp 3) rfl _ Tryd.underlying36 rfl w.heap.size (by kernel_rfl) (Mur.attC k1 r1 n1 t1).toArray 97 (Mur.attC_size hk1 hr1 ht1) (by kernel_rfl) 36 (0, 0) (Wk.Chg.hp hw' (Wk.Chg.hp ch4 (Wk.Chg.hp ch3 (Wk.Chg.hp ch2 hb1 trivial) trivial) trivial) trivial))) sS1 ?_
  refine Wk.dVal 10 (some 21) (.agg ((Mur.attC k3 r3 n3 t3).toArray)) rfl rfl (by kernel_rfl) (by kernel_rfl) (by kernel_rfl) (fun _ _ _ h => h) (by kernel_rfl) (fun w' hw' => (Mur.loadArr 36 (.tmp 5) rfl _ Tryd.underlying36 rfl W2.heap.size (by kernel_rfl) (Mur.attC k3 r3 n3 t3).toArray 97 (Mur.attC_size hk3 hr3 ht3) (by kernel_rfl) 36 (0, 0) (Wk.Chg.hp hw' (Wk.Chg.hp ch4 hb3 trivial) trivial))) sS1 ?_
  refine Wk.dOp 2 (by kernel_rfl) ?_
  refine Wk.oCall (some 13) 23 [.tmp 11, .tmp 12] #[36, 36] [.agg ((Mur.attC k1 r1 n1 t1).toArray), .agg ((Mur.attC k2 r2 n2 t2).toArray)] rfl rfl (by kernel_rfl) rfl (by kernel_rfl) (by kernel_rfl) ?_
  refine (Less_any k1 r1 t1 n1 hk1 hr1 ht1 k2 r2 t2 n2 hk2 hr2 ht2 W4).mono ?_
  by_cases hls1 : Go.Lib.compareBytes (Mur.rawL k1 r1 n1 t1) (Mur.rawL k2 r2 n2 t2) < 0
  · rw [decide_eq_true (hls1 : Go.Lib.compareBytes (Mur.rawL k1 r1 n1 t1) (Mur.rawL k2 r2 n2 t2) < 0)]
    rintro _ W5 ⟨rfl, ch5⟩
    have zz5 := ch5.size
    have sS2 := Wk.Chg.step sS1 ch5 trivial
    refine ⟨_, rfl, sS2, ?_⟩
    refine Wk.dOp 5 (by kernel_rfl) ?_
    refine Wk.oCall (some 16) 23 [.tmp 14, .tmp 15] #[36, 36] [.agg ((Mur.attC k2 r2 n2 t2).toArray), .agg ((Mur.attC k1 r1 n1 t1).toArray)] rfl rfl (by kernel_rfl) rfl (by kernel_rfl) (by kernel_rfl) ?_
    refine (Less_any k2 r2 t2 n2 hk2 hr2 ht2 k1 r1 t1 n1 hk1 hr1 ht1 W5).mono ?_
    by_cases hls2 : Go.Lib.compareBytes (Mur.rawL k2 r2 n2 t2) (Mur.rawL k1 r1 n1 t1) < 0
    · rw [decide_eq_true (hls2 : Go.Lib.compareBytes (Mur.rawL k2 r2 n2 t2) (Mur.rawL k1 r1 n1 t1) < 0)]
      rintro _ W6 ⟨rfl, ch6⟩
      have zz6 := ch6.size
      have sS3 := Wk.Chg.step sS2 ch6 trivial
      refine ⟨_, rfl, sS3, ?_⟩
      refine Wk.dOp 8 (by kernel_rfl) ?_
      refine Wk.oCall (some 19) 23 [.tmp 17, .tmp 18] #[36, 36] [.agg ((Mur.attC k2 r2 n2 t2).toArray), .agg ((Mur.attC k3 r3 n3 t3).toArray)] rfl rfl (by kernel_rfl) rfl (by kernel_rfl) (by kernel_rfl) ?_
      refine (Less_any k2 r2 t2 n2 hk2 hr2 ht2 k3 r3 t3 n3 hk3 hr3 ht3 W6).mono ?_
      by_cases hls3 : Go.Lib.compareBytes (Mur.rawL k2 r2 n2 t2) (Mur.rawL k3 r3 n3 t3) < 0
      · rw [decide_eq_true (hls3 : Go.Lib.compareBytes (Mur.rawL k2 r2 n2 t2) (Mur.rawL k3 r3 n3 t3) < 0)]
        rintro _ W7 ⟨rfl, ch7⟩
        have zz7 := ch7.size
        have sS4 := Wk.Chg.step sS3 ch7 trivial
        refine ⟨_, rfl, sS4, ?_⟩
        refine Wk.dOp 11 (by kernel_rfl) ?_
        refine Wk.oCall (some 22) 23 [.tmp 20, .tmp 21] #[36, 36] [.agg ((Mur.attC k1 r1 n1 t1).toArray), .agg ((Mur.attC k3 r3 n3 t3).toArray)] rfl rfl (by kernel_rfl) rfl (by kernel_rfl) (by kernel_rfl) ?_
        refine (Less_any k1 r1 t1 n1 hk1 hr1 ht1 k3 r3 t3 n3 hk3 hr3 ht3 W7).mono ?_
        by_cases hls4 : Go.Lib.compareBytes (Mur.rawL k1 r1 n1 t1) (Mur.rawL k3 r3 n3 t3) < 0
        · rw [decide_eq_true (hls4 : Go.Lib.compareBytes (Mur.rawL k1 r1 n1 t1) (Mur.rawL k3 r3 n3 t3) < 0)]
          rintro _ W8 ⟨rfl, ch8⟩
          have zz8 := ch8.size
          have sS5 := Wk.Chg.step sS4 ch8 trivial
          refine ⟨_, rfl, sS5, ?_⟩
          refine Wk.dVal 12 (some 7) (.bool true) rfl rfl (by kernel_rfl) (by kernel_rfl) (by kernel_rfl) (fun _ _ _ h => h) (by kernel_rfl) (fun w' hw' => by kernel_rfl) sS5 ?_
          refine Wk.dVal 13 (some 8) (.bool true) rfl rfl (by kernel_rfl) (by kernel_rfl) (by kernel_rfl) (fun _ _ _ h => h) (by kernel_rfl) (fun w' hw' => by kernel_rfl) sS5 ?_
          refine Wk.dVal 14 (some 9) (.bool true) rfl rfl (by kernel_rfl) (by kernel_rfl) (by kernel_rfl) (fun _ _ _ h => h) (by kernel_rfl) (fun w' hw' => by kernel_rfl) sS5 ?_
          refine Wk.dVal 15 (some 10) (.bool true) rfl rfl (by kernel_rfl) (by kernel_rfl) (by kernel_rfl) (fun _ _ _ h => h) (by kernel_rfl) (fun w' hw' => by kernel_rfl) sS5 ?_
          refine Wk.dEnd (by kernel_rfl) ?_
          refine Wk.nxt ?_
          refine wp_seq ?_
          refine wp_seq ?_
          refine Wk.reg ?_
          refine Wk.rPure 0 (some 23) (.agg ((Mur.attC k1 r1 n1 t1).toArray)) rfl rfl (by kernel_rfl) (Mur.loadArr 36 (.tmp 3) rfl _ Tryd.underlying36 rfl w.heap.size (by kernel_rfl) (Mur.attC k1 r1 n1 t1).toArray 97 (Mur.attC_size hk1 hr1 ht1) (by kernel_rfl) 36 (0, 0) (Wk.Chg.hp ch8 (Wk.Chg.hp ch7 (Wk.Chg.hp ch6 (Wk.Chg.hp ch5 (Wk.Chg.hp ch4 (Wk.Chg.hp ch3 (Wk.Chg.hp ch2 hb1 trivial) trivial) trivial) trivial) trivial) trivial) trivial)) ?_
          refine Wk.rPure 1 (some 24) (.agg ((Mur.attC k2 r2 n2 t2).toArray)) rfl rfl (by kernel_rfl) (Mur.loadArr 36 (.tmp 4) rfl _ Tryd.underlying36 rfl W1.heap.size (by kernel_rfl) (Mur.attC k2 r2 n2 t2).toArray 97 (Mur.attC_size hk2 hr2 ht2) (by kernel_rfl) 36 (0, 0) (Wk.Chg.hp ch8 (Wk.Chg.hp ch7 (Wk.Chg.hp ch6 (Wk.Chg.hp ch5 (Wk.Chg.hp ch4 (Wk.Chg.hp ch3 hb2 trivial) trivial) trivial) trivial) trivial) trivial)) ?_
          by_cases hatt1 : k1 = k2 ∧ r1 = r2 ∧ n1 = n2 ∧ t1 = t2
          · refine Wk.rPure 2 (some 25) (.bool true) rfl rfl (by kernel_rfl) (Wk.boolT (b := decide (k1 = k2 ∧ r1 = r2 ∧ n1 = n2 ∧ t1 = t2)) (decide_eq_true (hatt1)) (run_eql_att (.tmp 23) (.tmp 24) 36 rfl hk1 hr1 ht1 hk2 hr2 ht2 hwn1 hwn2 (by kernel_rfl) (by kernel_rfl))) ?_
            refine Wk.rPure 3 (some 26) (.bool true) rfl rfl (by kernel_rfl) (by kernel_rfl) ?_
            refine Wk.rPure 4 (some 27) (.bool false) rfl rfl (by kernel_rfl) (by kernel_rfl) ?_
            refine Wk.rPure 5 (some 28) (.bool false) rfl rfl (by kernel_rfl) (by kernel_rfl) ?_
            refine Wk.rPass 6 (some 29) rfl rfl (by kernel_rfl) ?_
            refine Wk.rPass 7 (some 30) rfl rfl (by kernel_rfl) ?_
            refine Wk.rPure 8 (some 31) (.bool false) rfl rfl (by kernel_rfl) (by kernel_rfl) ?_
            refine Wk.rPure 9 (some 32) (.bool true) rfl rfl (by kernel_rfl) (by kernel_rfl) ?_
            refine Wk.rPure 10 (some 33) (.bool true) rfl rfl (by kernel_rfl) (by kernel_rfl) ?_
            refine Wk.rPass 11 (some 34) rfl rfl (by kernel_rfl) ?_
            refine Wk.rPass 12 (some 35) rfl rfl (by kernel_rfl) ?_
            refine Wk.rPass 13 (some 36) rfl rfl (by kernel_rfl) ?_
            refine Wk.rPass 14 (some 37) rfl rfl (by kernel_rfl) ?_
            refine Wk.rPure 15 (some 38) (.bool true) rfl rfl (by kernel_rfl) (by kernel_rfl) ?_
            refine Wk.rPure 16 (some 39) (.bool true) rfl rfl (by kernel_rfl) (by kernel_rfl) ?_
            refine Wk.rPass 17 (some 40) rfl rfl (by kernel_rfl) ?_
            refine Wk.rPass 18 (some 41) rfl rfl (by kernel_rfl) ?_
            refine Wk.rPass 19 (some 42) rfl rfl (by kernel_rfl) ?_
            refine Wk.rPass 20 (some 43) rfl rfl (by kernel_rfl) ?_
            refine Wk.rPass 21 (some 44) rfl rfl (by kernel_rfl) ?_
            refine Wk.rPass 22 (some 45) rfl rfl (by kernel_rfl) ?_
            refine Wk.rPass 23 (some 46) rfl rfl (by kernel_rfl) ?_
            refine Wk.rPass 24 (some 47) rfl rfl (by kernel_rfl) ?_
            refine Wk.rPure 25 (some 48) (.bool true) rfl rfl (by kernel_rfl) (by kernel_rfl) ?_
            refine Wk.rEnd 26 rfl ?_
            refine Wk.nxt ?_
            refine wp_cond_true (by kernel_rfl) ?_
            refine wp_seq ?_
            refine Wk.reg ?_
            refine Wk.rPure 0 (some 6) (.bool false) rfl rfl (by kernel_rfl) (by kernel_rfl) ?_
            refine Wk.rEnd 1 rfl ?_
            refine Wk.nxt ?_
            refine wp_ret ?_
            refine Wk.thR ?_
            exfalso
            have o1 := Mur.cmp_flip (Mur.rawL k1 r1 n1 t1) (Mur.rawL k2 r2 n2 t2)
            have o2 := Mur.cmp_zero (Mur.rawL k1 r1 n1 t1) (Mur.rawL k2 r2 n2 t2)
            have o3 := Mur.cmp_trans (Mur.rawL k1 r1 n1 t1) (Mur.rawL k2 r2 n2 t2) (Mur.rawL k3 r3 n3 t3)
            have o4 := Mur.rawL_inj (t := t1) (t' := t2) hk1 hr1 hk2 hr2 hwn1 hwn2
            have o5 := Mur.cmp_self (Mur.rawL k1 r1 n1 t1)
            have o6 := o4.2 hatt1
            have o7 : Go.Lib.compareBytes (Mur.rawL k1 r1 n1 t1) (Mur.rawL k2 r2 n2 t2) = 0 := by rw [← o6]; exact o5
            omega
          · refine Wk.rPure 2 (some 25) (.bool false) rfl rfl (by kernel_rfl) (Wk.boolF (b := decide (k1 = k2 ∧ r1 = r2 ∧ n1 = n2 ∧ t1 = t2)) (decide_eq_false (hatt1)) (run_eql_att (.tmp 23) (.tmp 24) 36 rfl hk1 hr1 ht1 hk2 hr2 ht2 hwn1 hwn2 (by kernel_rfl) (by kernel_rfl))) ?_
            refine Wk.rPure 3 (some 26) (.bool true) rfl rfl (by kernel_rfl) (by kernel_rfl) ?_
            refine Wk.rPure 4 (some 27) (.bool false) rfl rfl (by kernel_rfl) (by kernel_rfl) ?_
            refine Wk.rPure 5 (some 28) (.bool false) rfl rfl (by kernel_rfl) (by kernel_rfl) ?_
            refine Wk.rPass 6 (some 29) rfl rfl (by kernel_rfl) ?_
            refine Wk.rPass 7 (some 30) rfl rfl (by kernel_rfl) ?_
            refine Wk.rPure 8 (some 31) (.bool false) rfl rfl (by kernel_rfl) (by kernel_rfl) ?_
            refine Wk.rPure 9 (some 32) (.bool false) rfl rfl (by kernel_rfl) (by kernel_rfl) ?_
            refine Wk.rPure 10 (some 33) (.bool false) rfl rfl (by kernel_rfl) (by kernel_rfl) ?_
            refine Wk.rPure 11 (some 34) (.bool true) rfl rfl (by kernel_rfl) (by kernel_rfl) ?_
            refine Wk.rPure 12 (some 35) (.bool true) rfl rfl (by kernel_rfl) (by kernel_rfl) ?_
            refine Wk.rPure 13 (some 36) (.bool true) rfl rfl (by kernel_rfl) (by kernel_rfl) ?_
            refine Wk.rPure 14 (some 37) (.bool true) rfl rfl (by kernel_rfl) (by kernel_rfl) ?_
            refine Wk.rPure 15 (some 38) (.bool true) rfl rfl (by kernel_rfl) (by kernel_rfl) ?_
            refine Wk.rPure 16 (some 39) (.bool true) rfl rfl (by kernel_rfl) (by kernel_rfl) ?_
            refine Wk.rPass 17 (some 40) rfl rfl (by kernel_rfl) ?_
            refine Wk.rPass 18 (some 41) rfl rfl (by kernel_rfl) ?_
            refine Wk.rPass 19 (some 42) rfl rfl (by kernel_rfl) ?_
            refine Wk.rPass 20 (some 43) rfl rfl (by kernel_rfl) ?_
            refine Wk.rPass 21 (some 44) rfl rfl (by kernel_rfl) ?_
            refine Wk.rPass 22 (some 45) rfl rfl (by kernel_rfl) ?_
            refine Wk.rPass 23 (some 46) rfl rfl (by kernel_rfl) ?_
            refine Wk.rPass 24 (some 47) rfl rfl (by kernel_rfl) ?_
            refine Wk.rPure 25 (some 48) (.bool true) rfl rfl (by kernel_rfl) (by kernel_rfl) ?_
            refine Wk.rEnd 26 rfl ?_
            refine Wk.nxt ?_
            refine wp_cond_true (by kernel_rfl) ?_
            refine wp_seq ?_
            refine Wk.reg ?_
            refine Wk.rPure 0 (some 6) (.bool false) rfl rfl (by kernel_rfl) (by kernel_rfl) ?_
            refine Wk.rEnd 1 rfl ?_
            refine Wk.nxt ?_
            refine wp_ret ?_
            refine Wk.thR ?_
            exfalso
            have o1 := Mur.cmp_flip (Mur.rawL k1 r1 n1 t1) (Mur.rawL k2 r2 n2 t2)
            have o2 := Mur.cmp_zero (Mur.rawL k1 r1 n1 t1) (Mur.rawL k2 r2 n2 t2)
            have o3 := Mur.cmp_trans (Mur.rawL k1 r1 n1 t1) (Mur.rawL k2 r2 n2 t2) (Mur.rawL k3 r3 n3 t3)
            have o4 := Mur.rawL_inj (t := t1) (t' := t2) hk1 hr1 hk2 hr2 hwn1 hwn2
            have o5 := Mur.cmp_self (Mur.rawL k1 r1 n1 t1)
            have o6 : ¬ Go.Lib.compareBytes (Mur.rawL k1 r1 n1 t1) (Mur.rawL k2 r2 n2 t2) = 0 := fun z => hatt1 (o4.1 (o2 z))
            first | omega | exact absurd (o3 (by omega) (by omega)) (by omega)
        · rw [decide_eq_false (hls4 : ¬ Go.Lib.compareBytes (Mur.rawL k1 r1 n1 t1) (Mur.rawL k3 r3 n3 t3) < 0)]
          rintro _ W8 ⟨rfl, ch8⟩
          have zz9 := ch8.size
          have sS6 := Wk.Chg.step sS4 ch8 trivial
          refine ⟨_, rfl, sS6, ?_⟩
          refine Wk.dVal 12 (some 7) (.bool true) rfl rfl (by kernel_rfl) (by kernel_rfl) (by kernel_rfl) (fun _ _ _ h => h) (by kernel_rfl) (fun w' hw' => by kernel_rfl) sS6 ?_
          refine Wk.dVal 13 (some 8) (.bool true) rfl rfl (by kernel_rfl) (by kernel_rfl) (by kernel_rfl) (fun _ _ _ h => h) (by kernel_rfl) (fun w' hw' => by kernel_rfl) sS6 ?_
          refine Wk.dVal 14 (some 9) (.bool true) rfl rfl (by kernel_rfl) (by kernel_rfl) (by kernel_rfl) (fun _ _ _ h => h) (by kernel_rfl) (fun w' hw' => by kernel_rfl) sS6 ?_
          refine Wk.dVal 15 (some 10) (.bool false) rfl rfl (by kernel_rfl) (by kernel_rfl) (by kernel_rfl) (fun _ _ _ h => h) (by kernel_rfl) (fun w' hw' => by kernel_rfl) sS6 ?_
          refine Wk.dEnd (by kernel_rfl) ?_
          refine Wk.nxt ?_
          refine wp_seq ?_
          refine wp_seq ?_
          refine Wk.reg ?_
          refine Wk.rPure 0 (some 23) (.agg ((Mur.attC k1 r1 n1 t1).toArray)) rfl rfl (by kernel_rfl) (Mur.loadArr 36 (.tmp 3) rfl _ Tryd.underlying36 rfl w.heap.size (by kernel_rfl) (Mur.attC k1 r1 n1 t1).toArray 97 (Mur.attC_size hk1 hr1 ht1) (by kernel_rfl) 36 (0, 0) (Wk.Chg.hp ch8 (Wk.Chg.hp ch7 (Wk.Chg.hp ch6 (Wk.Chg.hp ch5 (Wk.Chg.hp ch4 (Wk.Chg.hp ch3 (Wk.Chg.hp ch2 hb1 trivial) trivial) trivial) trivial) trivial) trivial) trivial)) ?_
          refine Wk.rPure 1 (some 24) (.agg ((Mur.attC k2 r2 n2 t2).toArray)) rfl rfl (by kernel_rfl) (Mur.loadArr 36 (.tmp 4) rfl _ Tryd.underlying36 rfl W1.heap.size (by kernel_rfl) (Mur.attC k2 r2 n2 t2).toArray 97 (Mur.attC_size hk2 hr2 ht2) (by kernel_rfl) 36 (0, 0) (Wk.Chg.hp ch8 (Wk.Chg.hp ch7 (Wk.Chg.hp ch6 (Wk.Chg.hp ch5 (Wk.Chg.hp ch4 (Wk.Chg.hp ch3 hb2 trivial) trivial) trivial) trivial) trivial) trivial)) ?_
          by_cases hatt2 : k1 = k2 ∧ r1 = r2 ∧ n1 = n2 ∧ t1 = t2
          · refine Wk.rPure 2 (some 25) (.bool true) rfl rfl (by kernel_rfl) (Wk.boolT (b := decide (k1 = k2 ∧ r1 = r2 ∧ n1 = n2 ∧ t1 = t2)) (decide_eq_true (hatt2)) (run_eql_att (.tmp 23) (.tmp 24) 36 rfl hk1 hr1 ht1 hk2 hr2 ht2 hwn1 hwn2 (by kernel_rfl) (by kernel_rfl))) ?_
            refine Wk.rPure 3 (some 26) (.bool true) rfl rfl (by kernel_rfl) (by kernel_rfl) ?_
            refine Wk.rPure 4 (some 27) (.bool false) rfl rfl (by kernel_rfl) (by kernel_rfl) ?_
            refine Wk.rPure 5 (some 28) (.bool false) rfl rfl (by kernel_rfl) (by kernel_rfl) ?_
            refine Wk.rPass 6 (some 29) rfl rfl (by kernel_rfl) ?_
            refine Wk.rPass 7 (some 30) rfl rfl (by kernel_rfl) ?_
            refine Wk.rPure 8 (some 31) (.bool false) rfl rfl (by kernel_rfl) (by kernel_rfl) ?_
            refine Wk.rPure 9 (some 32) (.bool true) rfl rfl (by kernel_rfl) (by kernel_rfl) ?_
            refine Wk.rPure 10 (some 33) (.bool true) rfl rfl (by kernel_rfl) (by kernel_rfl) ?_
            refine Wk.rPass 11 (some 34) rfl rfl (by kernel_rfl) ?_
            refine Wk.rPass 12 (some 35) rfl rfl (by kernel_rfl) ?_
            refine Wk.rPass 13 (some 36) rfl rfl (by kernel_rfl) ?_
            refine Wk.rPass 14 (some 37) rfl rfl (by kernel_rfl) ?_
            refine Wk.rPure 15 (some 38) (.bool true) rfl rfl (by kernel_rfl) (by kernel_rfl) ?_
            refine Wk.rPure 16 (some 39) (.bool true) rfl rfl (by kernel_rfl) (by kernel_rfl) ?_
            refine Wk.rPass 17 (some 40) rfl rfl (by kernel_rfl) ?_
            refine Wk.rPass 18 (some 41) rfl rfl (by kernel_rfl) ?_
            refine Wk.rPass 19 (some 42) rfl rfl (by kernel_rfl) ?_
            refine Wk.rPass 20 (some 43) rfl rfl (by kernel_rfl) ?_
            refine Wk.rPass 21 (some 44) rfl rfl (by kernel_rfl) ?_
            refine Wk.rPass 22 (some 45) rfl rfl (by kernel_rfl) ?_
            refine Wk.rPass 23 (some 46) rfl rfl (by kernel_rfl) ?_
            refine Wk.rPass 24 (some 47) rfl rfl (by kernel_rfl) ?_
            refine Wk.rPure 25 (some 48) (.bool true) rfl rfl (by kernel_rfl) (by kernel_rfl) ?_
            refine Wk.rEnd 26 rfl ?_
            refine Wk.nxt ?_
            refine wp_cond_true (by kernel_rfl) ?_
            refine wp_seq ?_
            refine Wk.reg ?_
            refine Wk.rPure 0 (some 6) (.bool false) rfl rfl (by kernel_rfl) (by kernel_rfl) ?_
            refine Wk.rEnd 1 rfl ?_
            refine Wk.nxt ?_
            refine wp_ret ?_
            refine Wk.thR ?_
            exfalso
            have o1 := Mur.cmp_flip (Mur.rawL k1 r1 n1 t1) (Mur.rawL k2 r2 n2 t2)
            have o2 := Mur.cmp_zero (Mur.rawL k1 r1 n1 t1) (Mur.rawL k2 r2 n2 t2)
            have o3 := Mur.cmp_trans (Mur.rawL k1 r1 n1 t1) (Mur.rawL k2 r2 n2 t2) (Mur.rawL k3 r3 n3 t3)
            have o4 := Mur.rawL_inj (t := t1) (t' := t2) hk1 hr1 hk2 hr2 hwn1 hwn2
            have o5 := Mur.cmp_self (Mur.rawL k1 r1 n1 t1)
            have o6 := o4.2 hatt2
            have o7 : Go.Lib.compareBytes (Mur.rawL k1 r1 n1 t1) (Mur.rawL k2 r2 n2 t2) = 0 := by rw [← o6]; exact o5
            omega
          · refine Wk.rPure 2 (some 25) (.bool false) rfl rfl (by kernel_rfl) (Wk.boolF (b := decide (k1 = k2 ∧ r1 = r2 ∧ n1 = n2 ∧ t1 = t2)) (decide_eq_false (hatt2)) (run_eql_att (.tmp 23) (.tmp 24) 36 rfl hk1 hr1 ht1 hk2 hr2 ht2 hwn1 hwn2 (by kernel_rfl) (by kernel_rfl))) ?_
            refine Wk.rPure 3 (some 26) (.bool true) rfl rfl (by kernel_rfl) (by kernel_rfl) ?_
            refine Wk.rPure 4 (some 27) (.bool false) rfl rfl (by kernel_rfl) (by kernel_rfl) ?_
            refine Wk.rPure 5 (some 28) (.bool false) rfl rfl (by kernel_rfl) (by kernel_rfl) ?_
            refine Wk.rPass 6 (some 29) rfl rfl (by kernel_rfl) ?_
            refine Wk.rPass 7 (some 30) rfl rfl (by kernel_rfl) ?_
            refine Wk.rPure 8 (some 31) (.bool false) rfl rfl (by kernel_rfl) (by kernel_rfl) ?_
            refine Wk.rPure 9 (some 32) (.bool false) rfl rfl (by kernel_rfl) (by kernel_rfl) ?_
            refine Wk.rPure 10 (some 33) (.bool false) rfl rfl (by kernel_rfl) (by kernel_rfl) ?_
            refine Wk.rPure 11 (some 34) (.bool true) rfl rfl (by kernel_rfl) (by kernel_rfl) ?_
            refine Wk.rPure 12 (some 35) (.bool true) rfl rfl (by kernel_rfl) (by kernel_rfl) ?_
            refine Wk.rPure 13 (some 36) (.bool true) rfl rfl (by kernel_rfl) (by kernel_rfl) ?_
            refine Wk.rPure 14 (some 37) (.bool true) rfl rfl (by kernel_rfl) (by kernel_rfl) ?_
            refine Wk.rPure 15 (some 38) (.bool true) rfl rfl (by kernel_rfl) (by kernel_rfl) ?_
            refine Wk.rPure 16 (some 39) (.bool true) rfl rfl (by kernel_rfl) (by kernel_rfl) ?_
            refine Wk.rPass 17 (some 40) rfl rfl (by kernel_rfl) ?_
            refine Wk.rPass 18 (some 41) rfl rfl (by kernel_rfl) ?_
            refine Wk.rPass 19 (some 42) rfl rfl (by kernel_rfl) ?_
            refine Wk.rPass 20 (some 43) rfl rfl (by kernel_rfl) ?_
            refine Wk.rPass 21 (some 44) rfl rfl (by kernel_rfl) ?_
            refine Wk.rPass 22 (some 45) rfl rfl (by kernel_rfl) ?_
            refine Wk.rPass 23 (some 46) rfl rfl (by kernel_rfl) ?_
            refine Wk.rPass 24 (some 47) rfl rfl (by kernel_rfl) ?_
            refine Wk.rPure 25 (some 48) (.bool true) rfl rfl (by kernel_rfl) (by kernel_rfl) ?_
            refine Wk.rEnd 26 rfl ?_
            refine Wk.nxt ?_
            refine wp_cond_true (by kernel_rfl) ?_
            refine wp_seq ?_
            refine Wk.reg ?_
            refine Wk.rPure 0 (some 6) (.bool false) rfl rfl (by kernel_rfl) (by kernel_rfl) ?_
            refine Wk.rEnd 1 rfl ?_
            refine Wk.nxt ?_
            refine wp_ret ?_
            refine Wk.thR ?_
            exfalso
            have o1 := Mur.cmp_flip (Mur.rawL k1 r1 n1 t1) (Mur.rawL k2 r2 n2 t2)
            have o2 := Mur.cmp_zero (Mur.rawL k1 r1 n1 t1) (Mur.rawL k2 r2 n2 t2)
            have o3 := Mur.cmp_trans (Mur.rawL k1 r1 n1 t1) (Mur.rawL k2 r2 n2 t2) (Mur.rawL k3 r3 n3 t3)
            have o4 := Mur.rawL_inj (t := t1) (t' := t2) hk1 hr1 hk2 hr2 hwn1 hwn2
            have o5 := Mur.cmp_self (Mur.rawL k1 r1 n1 t1)
            have o6 : ¬ Go.Lib.compareBytes (Mur.rawL k1 r1 n1 t1) (Mur.rawL k2 r2 n2 t2) = 0 := fun z => hatt2 (o4.1 (o2 z))
            first | omega | exact absurd (o3 (by omega) (by omega)) (by omega)
      · rw [decide_eq_false (hls3 : ¬ Go.Lib.compareBytes (Mur.rawL k2 r2 n2 t2) (Mur.rawL k3 r3 n3 t3) < 0)]
        rintro _ W7 ⟨rfl, ch7⟩
        have zz10 := ch7.size
        have sS7 := Wk.Chg.step sS3 ch7 trivial
        refine ⟨_, rfl, sS7, ?_⟩
        refine Wk.dOp 11 (by kernel_rfl) ?_
        refine Wk.oCall (some 22) 23 [.tmp 20, .tmp 21] #[36, 36] [.agg ((Mur.attC k1 r1 n1 t1).toArray), .agg ((Mur.attC k3 r3 n3 t3).toArray)] rfl rfl (by kernel_rfl) rfl (by kernel_rfl) (by kernel_rfl) ?_
        refine (Less_any k1 r1 t1 n1 hk1 hr1 ht1 k3 r3 t3 n3 hk3 hr3 ht3 W7).mono ?_
        by_cases hls5 : Go.Lib.compareBytes (Mur.rawL k1 r1 n1 t1) (Mur.rawL k3 r3 n3 t3) < 0
        · rw [decide_eq_true (hls5 : Go.Lib.compareBytes (Mur.rawL k1 r1 n1 t1) (Mur.rawL k3 r3 n3 t3) < 0)]
          rintro _ W9 ⟨rfl, ch9⟩
          have zz11 := ch9.size
          have sS8 := Wk.Chg.step sS7 ch9 trivial
          refine ⟨_, rfl, sS8, ?_⟩
          refine Wk.dVal 12 (some 7) (.bool true) rfl rfl (by kernel_rfl) (by kernel_rfl) (by kernel_rfl) (fun _ _ _ h => h) (by kernel_rfl) (fun w' hw' => by kernel_rfl) sS8 ?_
          refine Wk.dVal 13 (some 8) (.bool true) rfl rfl (by kernel_rfl) (by kernel_rfl) (by kernel_rfl) (fun _ _ _ h => h) (by kernel_rfl) (fun w' hw' => by kernel_rfl) sS8 ?_
          refine Wk.dVal 14 (some 9) (.bool false) rfl rfl (by kernel_rfl) (by kernel_rfl) (by kernel_rfl) (fun _ _ _ h => h) (by kernel_rfl) (fun w' hw' => by kernel_rfl) sS8 ?_
          refine Wk.dVal 15 (some 10) (.bool true) rfl rfl (by kernel_rfl) (by kernel_rfl) (by kernel_rfl) (fun _ _ _ h => h) (by kernel_rfl) (fun w' hw' => by kernel_rfl) sS8 ?_
          refine Wk.dEnd (by kernel_rfl) ?_
          refine Wk.nxt ?_
          refine wp_seq ?_
          refine wp_seq ?_
          refine Wk.reg ?_
          refine Wk.rPure 0 (some 23) (.agg ((Mur.attC k1 r1 n1 t1).toArray)) rfl rfl (by kernel_rfl) (Mur.loadArr 36 (.tmp 3) rfl _ Tryd.underlying36 rfl w.heap.size (by kernel_rfl) (Mur.attC k1 r1 n1 t1).toArray 97 (Mur.attC_size hk1 hr1 ht1) (by kernel_rfl) 36 (0, 0) (Wk.Chg.hp ch9 (Wk.Chg.hp ch7 (Wk.Chg.hp ch6 (Wk.Chg.hp ch5 (Wk.Chg.hp ch4 (Wk.Chg.hp ch3 (Wk.Chg.hp ch2 hb1 trivial) trivial) trivial) trivial) trivial) trivial) trivial)) ?_
          refine Wk.rPure 1 (some 24) (.agg ((Mur.attC k2 r2 n2 t2).toArray)) rfl rfl (by kernel_rfl) (Mur.loadArr 36 (.tmp 4) rfl _ Tryd.underlying36 rfl W1.heap.size (by kernel_rfl) (Mur.attC k2 r2 n2 t2).toArray 97 (Mur.attC_size hk2 hr2 ht2) (by kernel_rfl) 36 (0, 0) (Wk.Chg.hp ch9 (Wk.Chg.hp ch7 (Wk.Chg.hp ch6 (Wk.Chg.hp ch5 (Wk.Chg.hp ch4 (Wk.Chg.hp ch3 hb2 trivial) trivial) trivial) trivial) trivial) trivial)) ?_
          by_cases hatt3 : k1 = k2 ∧ r1 = r2 ∧ n1 = n2 ∧ t1 = t2
          · refine Wk.rPure 2 (some 25) (.bool true) rfl rfl (by kernel_rfl) (Wk.boolT (b := decide (k1 = k2 ∧ r1 = r2 ∧ n1 = n2 ∧ t1 = t2)) (decide_eq_true (hatt3)) (run_eql_att (.tmp 23) (.tmp 24) 36 rfl hk1 hr1 ht1 hk2 hr2 ht2 hwn1 hwn2 (by kernel_rfl) (by kernel_rfl))) ?_
            refine Wk.rPure 3 (some 26) (.bool true) rfl rfl (by kernel_rfl) (by kernel_rfl) ?_
            refine Wk.rPure 4 (some 27) (.bool false) rfl rfl (by kernel_rfl) (by kernel_rfl) ?_
            refine Wk.rPure 5 (some 28) (.bool false) rfl rfl (by kernel_rfl) (by kernel_rfl) ?_
            refine Wk.rPass 6 (some 29) rfl rfl (by kernel_rfl) ?_
            refine Wk.rPass 7 (some 30) rfl rfl (by kernel_rfl) ?_
            refine Wk.rPure 8 (some 31) (.bool false) rfl rfl (by kernel_rfl) (by kernel_rfl) ?_
            refine Wk.rPure 9 (some 32) (.bool true) rfl rfl (by kernel_rfl) (by kernel_rfl) ?_
            refine Wk.rPure 10 (some 33) (.bool true) rfl rfl (by kernel_rfl) (by kernel_rfl) ?_
            refine Wk.rPass 11 (some 34) rfl rfl (by kernel_rfl) ?_
            refine Wk.rPass 12 (some 35) rfl rfl (by kernel_rfl) ?_
            refine Wk.rPass 13 (some 36) rfl rfl (by kernel_rfl) ?_
            refine Wk.rPass 14 (some 37) rfl rfl (by kernel_rfl) ?_
            refine Wk.rPure 15 (some 38) (.bool true) rfl rfl (by kernel_rfl) (by kernel_rfl) ?_
            refine Wk.rPure 16 (some 39) (.bool true) rfl rfl (by kernel_rfl) (by kernel_rfl) ?_
            refine Wk.rPass 17 (some 40) rfl rfl (by kernel_rfl) ?_
            refine Wk.rPass 18 (some 41) rfl rfl (by kernel_rfl) ?_
            refine Wk.rPass 19 (some 42) rfl rfl (by kernel_rfl) ?_
            refine Wk.rPass 20 (some 43) rfl rfl (by kernel_rfl) ?_
            refine Wk.rPass 21 (some 44) rfl rfl (by kernel_rfl) ?_
            refine Wk.rPass 22 (some 45) rfl rfl (by kernel_rfl) ?_
            refine Wk.rPass 23 (some 46) rfl rfl (by kernel_rfl) ?_
            refine Wk.rPass 24 (some 47) rfl rfl (by kernel_rfl) ?_
            refine Wk.rPure 25 (some 48) (.bool true) rfl rfl (by kernel_rfl) (by kernel_rfl) ?_
            refine Wk.rEnd 26 rfl ?_
            refine Wk.nxt ?_
            refine wp_cond_true (by kernel_rfl) ?_
            refine wp_seq ?_
            refine Wk.reg ?_
            refine Wk.rPure 0 (some 6) (.bool false) rfl rfl (by kernel_rfl) (by kernel_rfl) ?_
            refine Wk.rEnd 1 rfl ?_
            refine Wk.nxt ?_
            refine wp_ret ?_
            refine Wk.thR ?_
            exfalso
            have o1 := Mur.cmp_flip (Mur.rawL k1 r1 n1 t1) (Mur.rawL k2 r2 n2 t2)
            have o2 := Mur.cmp_zero (Mur.rawL k1 r1 n1 t1) (Mur.rawL k2 r2 n2 t2)
            have o3 := Mur.cmp_trans (Mur.rawL k1 r1 n1 t1) (Mur.rawL k2 r2 n2 t2) (Mur.rawL k3 r3 n3 t3)
            have o4 := Mur.rawL_inj (t := t1) (t' := t2) hk1 hr1 hk2 hr2 hwn1 hwn2
            have o5 := Mur.cmp_self (Mur.rawL k1 r1 n1 t1)
            have o6 := o4.2 hatt3
            have o7 : Go.Lib.compareBytes (Mur.rawL k1 r1 n1 t1) (Mur.rawL k2 r2 n2 t2) = 0 := by rw [← o6]; exact o5
            omega
          · refine Wk.rPure 2 (some 25) (.bool false) rfl rfl (by kernel_rfl) (Wk.boolF (b := decide (k1 = k2 ∧ r1 = r2 ∧ n1 = n2 ∧ t1 = t2)) (decide_eq_false (hatt3)) (run_eql_att (.tmp 23) (.tmp 24) 36 rfl hk1 hr1 ht1 hk2 hr2 ht2 hwn1 hwn2 (by kernel_rfl) (by kernel_rfl))) ?_
            refine Wk.rPure 3 (some 26) (.bool true) rfl rfl (by kernel_rfl) (by kernel_rfl) ?_
            refine Wk.rPure 4 (some 27) (.bool false) rfl rfl (by kernel_rfl) (by kernel_rfl) ?_
            refine Wk.rPure 5 (some 28) (.bool false) rfl rfl (by kernel_rfl) (by kernel_rfl) ?_
            refine Wk.rPass 6 (some 29) rfl rfl (by kernel_rfl) ?_
            refine Wk.rPass 7 (some 30) rfl rfl (by kernel_rfl) ?_
            refine Wk.rPure 8 (some 31) (.bool false) rfl rfl (by kernel_rfl) (by kernel_rfl) ?_
            refine Wk.rPure 9 (some 32) (.bool false) rfl rfl (by kernel_rfl) (by kernel_rfl) ?_
            refine Wk.rPure 10 (some 33) (.bool false) rfl rfl (by kernel_rfl) (by kernel_rfl) ?_
            refine Wk.rPure 11 (some 34) (.bool true) rfl rfl (by kernel_rfl) (by kernel_rfl) ?_
            refine Wk.rPure 12 (some 35) (.bool true) rfl rfl (by kernel_rfl) (by kernel_rfl) ?_
            refine Wk.rPure 13 (some 36) (.bool true) rfl rfl (by kernel_rfl) (by kernel_rfl) ?_
            refine Wk.rPure 14 (some 37) (.bool true) rfl rfl (by kernel_rfl) (by kernel_rfl) ?_
            refine Wk.rPure 15 (some 38) (.bool true) rfl rfl (by kernel_rfl) (by kernel_rfl) ?_
            refine Wk.rPure 16 (some 39) (.bool true) rfl rfl (by kernel_rfl) (by kernel_rfl) ?_
            refine Wk.rPass 17 (some 40) rfl rfl (by kernel_rfl) ?_
            refine Wk.rPass 18 (some 41) rfl rfl (by kernel_rfl) ?_
            refine Wk.rPass 19 (some 42) rfl rfl (by kernel_rfl) ?_
            refine Wk.rPass 20 (some 43) rfl rfl (by kernel_rfl) ?_
            refine Wk.rPass 21 (some 44) rfl rfl (by kernel_rfl) ?_
            refine Wk.rPass 22 (some 45) rfl rfl (by kernel_rfl) ?_
            refine Wk.rPass 23 (some 46) rfl rfl (by kernel_rfl) ?_
            refine Wk.rPass 24 (some 47) rfl rfl (by kernel_rfl) ?_
            refine Wk.rPure 25 (some 48) (.bool true) rfl rfl (by kernel_rfl) (by kernel_rfl) ?_
            refine Wk.rEnd 26 rfl ?_
            refine Wk.nxt ?_
            refine wp_cond_true (by kernel_rfl) ?_
            refine wp_seq ?_
            refine Wk.reg ?_
            refine Wk.rPure 0 (some 6) (.bool false) rfl rfl (by kernel_rfl) (by kernel_rfl) ?_
            refine Wk.rEnd 1 rfl ?_
            refine Wk.nxt ?_
            refine wp_ret ?_
            refine Wk.thR ?_
            exfalso
            have o1 := Mur.cmp_flip (Mur.rawL k1 r1 n1 t1) (Mur.rawL k2 r2 n2 t2)
            have o2 := Mur.cmp_zero (Mur.rawL k1 r1 n1 t1) (Mur.rawL k2 r2 n2 t2)
            have o3 := Mur.cmp_trans (Mur.rawL k1 r1 n1 t1) (Mur.rawL k2 r2 n2 t2) (Mur.rawL k3 r3 n3 t3)
            have o4 := Mur.rawL_inj (t := t1) (t' := t2) hk1 hr1 hk2 hr2 hwn1 hwn2
            have o5 := Mur.cmp_self (Mur.rawL k1 r1 n1 t1)
            have o6 : ¬ Go.Lib.compareBytes (Mur.rawL k1 r1 n1 t1) (Mur.rawL k2 r2 n2 t2) = 0 := fun z => hatt3 (o4.1 (o2 z))
            first | omega | exact absurd (o3 (by omega) (by omega)) (by omega)
        · rw [decide_eq_false (hls5 : ¬ Go.Lib.compareBytes (Mur.rawL k1 r1 n1 t1) (Mur.rawL k3 r3 n3 t3) < 0)]
          rintro _ W9 ⟨rfl, ch9⟩
          have zz12 := ch9.size
          have sS9 := Wk.Chg.step sS7 ch9 trivial
          refine ⟨_, rfl, sS9, ?_⟩
          refine Wk.dVal 12 (some 7) (.bool true) rfl rfl (by kernel_rfl) (by kernel_rfl) (by kernel_rfl) (fun _ _ _ h => h) (by kernel_rfl) (fun w' hw' => by kernel_rfl) sS9 ?_
          refine Wk.dVal 13 (some 8) (.bool true) rfl rfl (by kernel_rfl) (by kernel_rfl) (by kernel_rfl) (fun _ _ _ h => h) (by kernel_rfl) (fun w' hw' => by kernel_rfl) sS9 ?_
          refine Wk.dVal 14 (some 9) (.bool false) rfl rfl (by kernel_rfl) (by kernel_rfl) (by kernel_rfl) (fun _ _ _ h => h) (by kernel_rfl) (fun w' hw' => by kernel_rfl) sS9 ?_
          refine Wk.dVal 15 (some 10) (.bool false) rfl rfl (by kernel_rfl) (by kernel_rfl) (by kernel_rfl) (fun _ _ _ h => h) (by kernel_rfl) (fun w' hw' => by kernel_rfl) sS9 ?_
          refine Wk.dEnd (by kernel_rfl) ?_
          refine Wk.nxt ?_
          refine wp_seq ?_
          refine wp_seq ?_
          refine Wk.reg ?_
          refine Wk.rPure 0 (some 23) (.agg ((Mur.attC k1 r1 n1 t1).toArray)) rfl rfl (by kernel_rfl) (Mur.loadArr 36 (.tmp 3) rfl _ Tryd.underlying36 rfl w.heap.size (by kernel_rfl) (Mur.attC k1 r1 n1 t1).toArray 97 (Mur.attC_size hk1 hr1 ht1) (by kernel_rfl) 36 (0, 0) (Wk.Chg.hp ch9 (Wk.Chg.hp ch7 (Wk.Chg.hp ch6 (Wk.Chg.hp ch5 (Wk.Chg.hp ch4 (Wk.Chg.hp ch3 (Wk.Chg.hp ch2 hb1 trivial) trivial) trivial) trivial) trivial) trivial) trivial)) ?_
          refine Wk.rPure 1 (some 24) (.agg ((Mur.attC k2 r2 n2 t2).toArray)) rfl rfl (by kernel_rfl) (Mur.loadArr 36 (.tmp 4) rfl _ Tryd.underlying36 rfl W1.heap.size (by kernel_rfl) (Mur.attC k2 r2 n2 t2).toArray 97 (Mur.attC_size hk2 hr2 ht2) (by kernel_rfl) 36 (0, 0) (Wk.Chg.hp ch9 (Wk.Chg.hp ch7 (Wk.Chg.hp ch6 (Wk.Chg.hp ch5 (Wk.Chg.hp ch4 (Wk.Chg.hp ch3 hb2 trivial) trivial) trivial) trivial) trivial) trivial)) ?_
          by_cases hatt4 : k1 = k2 ∧ r1 = r2 ∧ n1 = n2 ∧ t1 = t2
          · refine Wk.rPure 2 (some 25) (.bool true) rfl rfl (by kernel_rfl) (Wk.boolT (b := decide (k1 = k2 ∧ r1 = r2 ∧ n1 = n2 ∧ t1 = t2)) (decide_eq_true (hatt4)) (run_eql_att (.tmp 23) (.tmp 24) 36 rfl hk1 hr1 ht1 hk2 hr2 ht2 hwn1 hwn2 (by kernel_rfl) (by kernel_rfl))) ?_
            refine Wk.rPure 3 (some 26) (.bool true) rfl rfl (by kernel_rfl) (by kernel_rfl) ?_
            refine Wk.rPure 4 (some 27) (.bool false) rfl rfl (by kernel_rfl) (by kernel_rfl) ?_
            refine Wk.rPure 5 (some 28) (.bool false) rfl rfl (by kernel_rfl) (by kernel_rfl) ?_
            refine Wk.rPass 6 (some 29) rfl rfl (by kernel_rfl) ?_
            refine Wk.rPass 7 (some 30) rfl rfl (by kernel_rfl) ?_
            refine Wk.rPure 8 (some 31) (.bool false) rfl rfl (by kernel_rfl) (by kernel_rfl) ?_
            refine Wk.rPure 9 (some 32) (.bool true) rfl rfl (by kernel_rfl) (by kernel_rfl) ?_
            refine Wk.rPure 10 (some 33) (.bool true) rfl rfl (by kernel_rfl) (by kernel_rfl) ?_
            refine Wk.rPass 11 (some 34) rfl rfl (by kernel_rfl) ?_
            refine Wk.rPass 12 (some 35) rfl rfl (by kernel_rfl) ?_
            refine Wk.rPass 13 (some 36) rfl rfl (by kernel_rfl) ?_
            refine Wk.rPass 14 (some 37) rfl rfl (by kernel_rfl) ?_
            refine Wk.rPure 15 (some 38) (.bool true) rfl rfl (by kernel_rfl) (by kernel_rfl) ?_
            refine Wk.rPure 16 (some 39) (.bool true) rfl rfl (by kernel_rfl) (by kernel_rfl) ?_
            refine Wk.rPass 17 (some 40) rfl rfl (by kernel_rfl) ?_
            refine Wk.rPass 18 (some 41) rfl rfl (by kernel_rfl) ?_
            refine Wk.rPass 19 (some 42) rfl rfl (by kernel_rfl) ?_
            refine Wk.rPass 20 (some 43) rfl rfl (by kernel_rfl) ?_
            refine Wk.rPass 21 (some 44) rfl rfl (by kernel_rfl) ?_
            refine Wk.rPass 22 (some 45) rfl rfl (by kernel_rfl) ?_
            refine Wk.rPass 23 (some 46) rfl rfl (by kernel_rfl) ?_
            refine Wk.rPass 24 (some 47) rfl rfl (by kernel_rfl) ?_
            refine Wk.rPure 25 (some 48) (.bool true) rfl rfl (by kernel_rfl) (by kernel_rfl) ?_
            refine Wk.rEnd 26 rfl ?_
            refine Wk.nxt ?_
            refine wp_cond_true (by kernel_rfl) ?_
            refine wp_seq ?_
            refine Wk.reg ?_
            refine Wk.rPure 0 (some 6) (.bool false) rfl rfl (by kernel_rfl) (by kernel_rfl) ?_
            refine Wk.rEnd 1 rfl ?_
            refine Wk.nxt ?_
            refine wp_ret ?_
            refine Wk.thR ?_
            exfalso
            have o1 := Mur.cmp_flip (Mur.rawL k1 r1 n1 t1) (Mur.rawL k2 r2 n2 t2)
            have o2 := Mur.cmp_zero (Mur.rawL k1 r1 n1 t1) (Mur.rawL k2 r2 n2 t2)
            have o3 := Mur.cmp_trans (Mur.rawL k1 r1 n1 t1) (Mur.rawL k2 r2 n2 t2) (Mur.rawL k3 r3 n3 t3)
            have o4 := Mur.rawL_inj (t := t1) (t' := t2) hk1 hr1 hk2 hr2 hwn1 hwn2
            have o5 := Mur.cmp_self (Mur.rawL k1 r1 n1 t1)
            have o6 := o4.2 hatt4
            have o7 : Go.Lib.compareBytes (Mur.rawL k1 r1 n1 t1) (Mur.rawL k2 r2 n2 t2) = 0 := by rw [← o6]; exact o5
            omega
          · refine Wk.rPure 2 (some 25) (.bool false) rfl rfl (by kernel_rfl) (Wk.boolF (b := decide (k1 = k2 ∧ r1 = r2 ∧ n1 = n2 ∧ t1 = t2)) (decide_eq_false (hatt4)) (run_eql_att (.tmp 23) (.tmp 24) 36 rfl hk1 hr1 ht1 hk2 hr2 ht2 hwn1 hwn2 (by kernel_rfl) (by kernel_rfl))) ?_
            refine Wk.rPure 3 (some 26) (.bool true) rfl rfl (by kernel_rfl) (by kernel_rfl) ?_
            refine Wk.rPure 4 (some 27) (.bool false) rfl rfl (by kernel_rfl) (by kernel_rfl) ?_
            refine Wk.rPure 5 (some 28) (.bool false) rfl rfl (by kernel_rfl) (by kernel_rfl) ?_
            refine Wk.rPass 6 (some 29) rfl rfl (by kernel_rfl) ?_
            refine Wk.rPass 7 (some 30) rfl rfl (by kernel_rfl) ?_
            refine Wk.rPure 8 (some 31) (.bool false) rfl rfl (by kernel_rfl) (by kernel_rfl) ?_
            refine Wk.rPure 9 (some 32) (.bool false) rfl rfl (by kernel_rfl) (by kernel_rfl) ?_
            refine Wk.rPure 10 (some 33) (.bool false) rfl rfl (by kernel_rfl) (by kernel_rfl) ?_
            refine Wk.rPure 11 (some 34) (.bool true) rfl rfl (by kernel_rfl) (by kernel_rfl) ?_
            refine Wk.rPure 12 (some 35) (.bool true) rfl rfl (by kernel_rfl) (by kernel_rfl) ?_
            refine Wk.rPure 13 (some 36) (.bool true) rfl rfl (by kernel_rfl) (by kernel_rfl) ?_
            refine Wk.rPure 14 (some 37) (.bool true) rfl rfl (by kernel_rfl) (by kernel_rfl) ?_
            refine Wk.rPure 15 (some 38) (.bool true) rfl rfl (by kernel_rfl) (by kernel_rfl) ?_
            refine Wk.rPure 16 (some 39) (.bool true) rfl rfl (by kernel_rfl) (by kernel_rfl) ?_
            refine Wk.rPass 17 (some 40) rfl rfl (by kernel_rfl) ?_
            refine Wk.rPass 18 (some 41) rfl rfl (by kernel_rfl) ?_
            refine Wk.rPass 19 (some 42) rfl rfl (by kernel_rfl) ?_
            refine Wk.rPass 20 (some 43) rfl rfl (by kernel_rfl) ?_
            refine Wk.rPass 21 (some 44) rfl rfl (by kernel_rfl) ?_
            refine Wk.rPass 22 (some 45) rfl rfl (by kernel_rfl) ?_
            refine Wk.rPass 23 (some 46) rfl rfl (by kernel_rfl) ?_
            refine Wk.rPass 24 (some 47) rfl rfl (by kernel_rfl) ?_
            refine Wk.rPure 25 (some 48) (.bool true) rfl rfl (by kernel_rfl) (by kernel_rfl) ?_
            refine Wk.rEnd 26 rfl ?_
            refine Wk.nxt ?_
            refine wp_cond_true (by kernel_rfl) ?_
            refine wp_seq ?_
            refine Wk.reg ?_
            refine Wk.rPure 0 (some 6) (.bool false) rfl rfl (by kernel_rfl) (by kernel_rfl) ?_
            refine Wk.rEnd 1 rfl ?_
            refine Wk.nxt ?_
            refine wp_ret ?_
            refine Wk.thR ?_
            exfalso
            have o1 := Mur.cmp_flip (Mur.rawL k1 r1 n1 t1) (Mur.rawL k2 r2 n2 t2)
            have o2 := Mur.cmp_zero (Mur.rawL k1 r1 n1 t1) (Mur.rawL k2 r2 n2 t2)
            have o3 := Mur.cmp_trans (Mur.rawL k1 r1 n1 t1) (Mur.rawL k2 r2 n2 t2) (Mur.rawL k3 r3 n3 t3)
            have o4 := Mur.rawL_inj (t := t1) (t' := t2) hk1 hr1 hk2 hr2 hwn1 hwn2
            have o5 := Mur.cmp_self (Mur.rawL k1 r1 n1 t1)
            have o6 : ¬ Go.Lib.compareBytes (Mur.rawL k1 r1 n1 t1) (Mur.rawL k2 r2 n2 t2) = 0 := fun z => hatt4 (o4.1 (o2 z))
            first | omega | exact absurd (o3 (by omega) (by omega)) (by omega)
    · rw [decide_eq_false (hls2 : ¬ Go.Lib.compareBytes (Mur.rawL k2 r2 n2 t2) (Mur.rawL k1 r1 n1 t1) < 0)]
      rintro _ W6 ⟨rfl, ch6⟩
      have zz13 := ch6.size
      have sS10 := Wk.Chg.step sS2 ch6 trivial
      refine ⟨_, rfl, sS10, ?_⟩
      refine Wk.dOp 8 (by kernel_rfl) ?_
      refine Wk.oCall (some 19) 23 [.tmp 17, .tmp 18] #[36, 36] [.agg ((Mur.attC k2 r2 n2 t2).toArray), .agg ((Mur.attC k3 r3 n3 t3).toArray)] rfl rfl (by kernel_rfl) rfl (by kernel_rfl) (by kernel_rfl) ?_
      refine (Less_any k2 r2 t2 n2 hk2 hr2 ht2 k3 r3 t3 n3 hk3 hr3 ht3 W6).mono ?_
      by_cases hls6 : Go.Lib.compareBytes (Mur.rawL k2 r2 n2 t2) (Mur.rawL k3 r3 n3 t3) < 0
      · rw [decide_eq_true (hls6 : Go.Lib.compareBytes (Mur.rawL k2 r2 n2 t2) (Mur.rawL k3 r3 n3 t3) < 0)]
        rintro _ W10 ⟨rfl, ch10⟩
        have zz14 := ch10.size
        have sS11 := Wk.Chg.step sS10 ch10 trivial
        refine ⟨_, rfl, sS11, ?_⟩
        refine Wk.dOp 11 (by kernel_rfl) ?_
        refine Wk.oCall (some 22) 23 [.tmp 20, .tmp 21] #[36, 36] [.agg ((Mur.attC k1 r1 n1 t1).toArray), .agg ((Mur.attC k3 r3 n3 t3).toArray)] rfl rfl (by kernel_rfl) rfl (by kernel_rfl) (by kernel_rfl) ?_
        refine (Less_any k1 r1 t1 n1 hk1 hr1 ht1 k3 r3 t3 n3 hk3 hr3 ht3 W10).mono ?_
        by_cases hls7 : Go.Lib.compareBytes (Mur.rawL k1 r1 n1 t1) (Mur.rawL k3 r3 n3 t3) < 0
        · rw [decide_eq_true (hls7 : Go.Lib.compareBytes (Mur.rawL k1 r1 n1 t1) (Mur.rawL k3 r3 n3 t3) < 0)]
          rintro _ W11 ⟨rfl, ch11⟩
          have zz15 := ch11.size
          have sS12 := Wk.Chg.step sS11 ch11 trivial
          refine ⟨_, rfl, sS12, ?_⟩
          refine Wk.dVal 12 (some 7) (.bool true) rfl rfl (by kernel_rfl) (by kernel_rfl) (by kernel_rfl) (fun _ _ _ h => h) (by kernel_rfl) (fun w' hw' => by kernel_rfl) sS12 ?_
          refine Wk.dVal 13 (some 8) (.bool false) rfl rfl (by kernel_rfl) (by kernel_rfl) (by kernel_rfl) (fun _ _ _ h => h) (by kernel_rfl) (fun w' hw' => by kernel_rfl) sS12 ?_
          refine Wk.dVal 14 (some 9) (.bool true) rfl rfl (by kernel_rfl) (by kernel_rfl) (by kernel_rfl) (fun _ _ _ h => h) (by kernel_rfl) (fun w' hw' => by kernel_rfl) sS12 ?_
          refine Wk.dVal 15 (some 10) (.bool true) rfl rfl (by kernel_rfl) (by kernel_rfl) (by kernel_rfl) (fun _ _ _ h => h) (by kernel_rfl) (fun w' hw' => by kernel_rfl) sS12 ?_
          refine Wk.dEnd (by kernel_rfl) ?_
          refine Wk.nxt ?_
          refine wp_seq ?_
          refine wp_seq ?_
          refine Wk.reg ?_
          refine Wk.rPure 0 (some 23) (.agg ((Mur.attC k1 r1 n1 t1).toArray)) rfl rfl (by kernel_rfl) (Mur.loadArr 36 (.tmp 3) rfl _ Tryd.underlying36 rfl w.heap.size (by kernel_rfl) (Mur.attC k1 r1 n1 t1).toArray 97 (Mur.attC_size hk1 hr1 ht1) (by kernel_rfl) 36 (0, 0) (Wk.Chg.hp ch11 (Wk.Chg.hp ch10 (Wk.Chg.hp ch6 (Wk.Chg.hp ch5 (Wk.Chg.hp ch4 (Wk.Chg.hp ch3 (Wk.Chg.hp ch2 hb1 trivial) trivial) trivial) trivial) trivial) trivial) trivial)) ?_
          refine Wk.rPure 1 (some 24) (.agg ((Mur.attC k2 r2 n2 t2).toArray)) rfl rfl (by kernel_rfl) (Mur.loadArr 36 (.tmp 4) rfl _ Tryd.underlying36 rfl W1.heap.size (by kernel_rfl) (Mur.attC k2 r2 n2 t2).toArray 97 (Mur.attC_size hk2 hr2 ht2) (by kernel_rfl) 36 (0, 0) (Wk.Chg.hp ch11 (Wk.Chg.hp ch10 (Wk.Chg.hp ch6 (Wk.Chg.hp ch5 (Wk.Chg.hp ch4 (Wk.Chg.hp ch3 hb2 trivial) trivial) trivial) trivial) trivial) trivial)) ?_
          by_cases hatt5 : k1 = k2 ∧ r1 = r2 ∧ n1 = n2 ∧ t1 = t2
          · refine Wk.rPure 2 (some 25) (.bool true) rfl rfl (by kernel_rfl) (Wk.boolT (b := decide (k1 = k2 ∧ r1 = r2 ∧ n1 = n2 ∧ t1 = t2)) (decide_eq_true (hatt5)) (run_eql_att (.tmp 23) (.tmp 24) 36 rfl hk1 hr1 ht1 hk2 hr2 ht2 hwn1 hwn2 (by kernel_rfl) (by kernel_rfl))) ?_
            refine Wk.rPure 3 (some 26) (.bool true) rfl rfl (by kernel_rfl) (by kernel_rfl) ?_
            refine Wk.rPure 4 (some 27) (.bool false) rfl rfl (by kernel_rfl) (by kernel_rfl) ?_
            refine Wk.rPure 5 (some 28) (.bool false) rfl rfl (by kernel_rfl) (by kernel_rfl) ?_
            refine Wk.rPass 6 (some 29) rfl rfl (by kernel_rfl) ?_
            refine Wk.rPass 7 (some 30) rfl rfl (by kernel_rfl) ?_
            refine Wk.rPure 8 (some 31) (.bool false) rfl rfl (by kernel_rfl) (by kernel_rfl) ?_
            refine Wk.rPure 9 (some 32) (.bool true) rfl rfl (by kernel_rfl) (by kernel_rfl) ?_
            refine Wk.rPure 10 (some 33) (.bool true) rfl rfl (by kernel_rfl) (by kernel_rfl) ?_
            refine Wk.rPass 11 (some 34) rfl rfl (by kernel_rfl) ?_
            refine Wk.rPass 12 (some 35) rfl rfl (by kernel_rfl) ?_
            refine Wk.rPass 13 (some 36) rfl rfl (by kernel_rfl) ?_
            refine Wk.rPass 14 (some 37) rfl rfl (by kernel_rfl) ?_
            refine Wk.rPure 15 (some 38) (.bool true) rfl rfl (by kernel_rfl) (by kernel_rfl) ?_
            refine Wk.rPure 16 (some 39) (.bool true) rfl rfl (by kernel_rfl) (by kernel_rfl) ?_
            refine Wk.rPass 17 (some 40) rfl rfl (by kernel_rfl) ?_
            refine Wk.rPass 18 (some 41) rfl rfl (by kernel_rfl) ?_
            refine Wk.rPass 19 (some 42) rfl rfl (by kernel_rfl) ?_
            refine Wk.rPass 20 (some 43) rfl rfl (by kernel_rfl) ?_
            refine Wk.rPass 21 (some 44) rfl rfl (by kernel_rfl) ?_
            refine Wk.rPass 22 (some 45) rfl rfl (by kernel_rfl) ?_
            refine Wk.rPass 23 (some 46) rfl rfl (by kernel_rfl) ?_
            refine Wk.rPass 24 (some 47) rfl rfl (by kernel_rfl) ?_
            refine Wk.rPure 25 (some 48) (.bool true) rfl rfl (by kernel_rfl) (by kernel_rfl) ?_
            refine Wk.rEnd 26 rfl ?_
            refine Wk.nxt ?_
            refine wp_cond_true (by kernel_rfl) ?_
            refine wp_seq ?_
            refine Wk.reg ?_
            refine Wk.rPure 0 (some 6) (.bool false) rfl rfl (by kernel_rfl) (by kernel_rfl) ?_
            refine Wk.rEnd 1 rfl ?_
            refine Wk.nxt ?_
            refine wp_ret ?_
            refine Wk.thR ?_
            exfalso
            have o1 := Mur.cmp_flip (Mur.rawL k1 r1 n1 t1) (Mur.rawL k2 r2 n2 t2)
            have o2 := Mur.cmp_zero (Mur.rawL k1 r1 n1 t1) (Mur.rawL k2 r2 n2 t2)
            have o3 := Mur.cmp_trans (Mur.rawL k1 r1 n1 t1) (Mur.rawL k2 r2 n2 t2) (Mur.rawL k3 r3 n3 t3)
            have o4 := Mur.rawL_inj (t := t1) (t' := t2) hk1 hr1 hk2 hr2 hwn1 hwn2
            have o5 := Mur.cmp_self (Mur.rawL k1 r1 n1 t1)
            have o6 := o4.2 hatt5
            have o7 : Go.Lib.compareBytes (Mur.rawL k1 r1 n1 t1) (Mur.rawL k2 r2 n2 t2) = 0 := by rw [← o6]; exact o5
            omega
          · refine Wk.rPure 2 (some 25) (.bool false) rfl rfl (by kernel_rfl) (Wk.boolF (b := decide (k1 = k2 ∧ r1 = r2 ∧ n1 = n2 ∧ t1 = t2)) (decide_eq_false (hatt5)) (run_eql_att (.tmp 23) (.tmp 24) 36 rfl hk1 hr1 ht1 hk2 hr2 ht2 hwn1 hwn2 (by kernel_rfl) (by kernel_rfl))) ?_
            refine Wk.rPure 3 (some 26) (.bool true) rfl rfl (by kernel_rfl) (by kernel_rfl) ?_
            refine Wk.rPure 4 (some 27) (.bool false) rfl rfl (by kernel_rfl) (by kernel_rfl) ?_
            refine Wk.rPure 5 (some 28) (.bool false) rfl rfl (by kernel_rfl) (by kernel_rfl) ?_
            refine Wk.rPass 6 (some 29) rfl rfl (by kernel_rfl) ?_
            refine Wk.rPass 7 (some 30) rfl rfl (by kernel_rfl) ?_
            refine Wk.rPure 8 (some 31) (.bool false) rfl rfl (by kernel_rfl) (by kernel_rfl) ?_
            refine Wk.rPure 9 (some 32) (.bool false) rfl rfl (by kernel_rfl) (by kernel_rfl) ?_
            refine Wk.rPure 10 (some 33) (.bool false) rfl rfl (by kernel_rfl) (by kernel_rfl) ?_
            refine Wk.rPure 11 (some 34) (.bool true) rfl rfl (by kernel_rfl) (by kernel_rfl) ?_
            refine Wk.rPure 12 (some 35) (.bool true) rfl rfl (by kernel_rfl) (by kernel_rfl) ?_
            refine Wk.rPure 13 (some 36) (.bool false) rfl rfl (by kernel_rfl) (by kernel_rfl) ?_
            refine Wk.rPure 14 (some 37) (.bool false) rfl rfl (by kernel_rfl) (by kernel_rfl) ?_
            refine Wk.rPure 15 (some 38) (.bool false) rfl rfl (by kernel_rfl) (by kernel_rfl) ?_
            refine Wk.rPure 16 (some 39) (.bool false) rfl rfl (by kernel_rfl) (by kernel_rfl) ?_
            refine Wk.rPure 17 (some 40) (.bool true) rfl rfl (by kernel_rfl) (by kernel_rfl) ?_
            refine Wk.rPure 18 (some 41) (.bool true) rfl rfl (by kernel_rfl) (by kernel_rfl) ?_
            refine Wk.rPure 19 (some 42) (.bool true) rfl rfl (by kernel_rfl) (by kernel_rfl) ?_
            refine Wk.rPure 20 (some 43) (.bool true) rfl rfl (by kernel_rfl) (by kernel_rfl) ?_
            refine Wk.rPure 21 (some 44) (.bool true) rfl rfl (by kernel_rfl) (by kernel_rfl) ?_
            refine Wk.rPure 22 (some 45) (.bool true) rfl rfl (by kernel_rfl) (by kernel_rfl) ?_
            refine Wk.rPure 23 (some 46) (.bool false) rfl rfl (by kernel_rfl) (by kernel_rfl) ?_
            refine Wk.rPure 24 (some 47) (.bool false) rfl rfl (by kernel_rfl) (by kernel_rfl) ?_
            refine Wk.rPure 25 (some 48) (.bool false) rfl rfl (by kernel_rfl) (by kernel_rfl) ?_
            refine Wk.rEnd 26 rfl ?_
            refine Wk.nxt ?_
            refine wp_cond_false (by kernel_rfl) ?_
            refine wp_skip ?_
            refine Wk.nxt ?_
            refine wp_seq ?_
            refine Wk.reg ?_
            refine Wk.rCall 0 (some 49) 17 [] #[] [] rfl rfl (by kernel_rfl) rfl (by kernel_rfl) (by kernel_rfl) ?_
            have kk1 : Wk.Chg [] w W1 := Wk.Chg.step ((Wk.Chg.refl _).more (by simp)) ch1 trivial
            have kk2 := Wk.Chg.step kk1 ch2 trivial
            have kk3 := Wk.Chg.step kk2 ch3 trivial
            have kk4 := Wk.Chg.step kk3 ch4 trivial
            have kk5 := Wk.Chg.step kk4 ch5 trivial
            have kk6 := Wk.Chg.step kk5 ch6 trivial
            have kk7 := Wk.Chg.step kk6 ch10 trivial
            have kk8 := Wk.Chg.step kk7 ch11 trivial
            refine (known9_any W11 (HV.out.below (Wk.Chg.below0 kk8))).mono ?_
            rintro _ W12 ⟨rfl, ch12⟩
            have zz16 := ch12.size
            refine ⟨_, rfl, ?_⟩
            refine Wk.rPure 1 (some 6) (.bool true) rfl rfl (by kernel_rfl) (by kernel_rfl) ?_
            refine Wk.rEnd 2 rfl ?_
            refine Wk.nxt ?_
            refine wp_ret ?_
            have kk9 := Wk.Chg.step kk8 ch12 trivial
            refine Wk.ret (.bool true) rfl (by kernel_rfl) ?_
            exact ⟨rfl, Wk.Chg.below0 kk9⟩
        · rw [decide_eq_false (hls7 : ¬ Go.Lib.compareBytes (Mur.rawL k1 r1 n1 t1) (Mur.rawL k3 r3 n3 t3) < 0)]
          rintro _ W11 ⟨rfl, ch11⟩
          have zz17 := ch11.size
          have sS13 := Wk.Chg.step sS11 ch11 trivial
          refine ⟨_, rfl, sS13, ?_⟩
          refine Wk.dVal 12 (some 7) (.bool true) rfl rfl (by kernel_rfl) (by kernel_rfl) (by kernel_rfl) (fun _ _ _ h => h) (by kernel_rfl) (fun w' hw' => by kernel_rfl) sS13 ?_
          refine Wk.dVal 13 (some 8) (.bool false) rfl rfl (by kernel_rfl) (by kernel_rfl) (by kernel_rfl) (fun _ _ _ h => h) (by kernel_rfl) (fun w' hw' => by kernel_rfl) sS13 ?_
          refine Wk.dVal 14 (some 9) (.bool true) rfl rfl (by kernel_rfl) (by kernel_rfl) (by kernel_rfl) (fun _ _ _ h => h) (by kernel_rfl) (fun w' hw' => by kernel_rfl) sS13 ?_
          refine Wk.dVal 15 (some 10) (.bool false) rfl rfl (by kernel_rfl) (by kernel_rfl) (by kernel_rfl) (fun _ _ _ h => h) (by kernel_rfl) (fun w' hw' => by kernel_rfl) sS13 ?_
          refine Wk.dEnd (by kernel_rfl) ?_
          refine Wk.nxt ?_
          refine wp_seq ?_
          refine wp_seq ?_
          refine Wk.reg ?_
          refine Wk.rPure 0 (some 23) (.agg ((Mur.attC k1 r1 n1 t1).toArray)) rfl rfl (by kernel_rfl) (Mur.loadArr 36 (.tmp 3) rfl _ Tryd.underlying36 rfl w.heap.size (by kernel_rfl) (Mur.attC k1 r1 n1 t1).toArray 97 (Mur.attC_size hk1 hr1 ht1) (by kernel_rfl) 36 (0, 0) (Wk.Chg.hp ch11 (Wk.Chg.hp ch10 (Wk.Chg.hp ch6 (Wk.Chg.hp ch5 (Wk.Chg.hp ch4 (Wk.Chg.hp ch3 (Wk.Chg.hp ch2 hb1 trivial) trivial) trivial) trivial) trivial) trivial) trivial)) ?_
          refine Wk.rPure 1 (some 24) (.agg ((Mur.attC k2 r2 n2 t2).toArray)) rfl rfl (by kernel_rfl) (Mur.loadArr 36 (.tmp 4) rfl _ Tryd.underlying36 rfl W1.heap.size (by kernel_rfl) (Mur.attC k2 r2 n2 t2).toArray 97 (Mur.attC_size hk2 hr2 ht2) (by kernel_rfl) 36 (0, 0) (Wk.Chg.hp ch11 (Wk.Chg.hp ch10 (Wk.Chg.hp ch6 (Wk.Chg.hp ch5 (Wk.Chg.hp ch4 (Wk.Chg.hp ch3 hb2 trivial) trivial) trivial) trivial) trivial) trivial)) ?_
          by_cases hatt6 : k1 = k2 ∧ r1 = r2 ∧ n1 = n2 ∧ t1 = t2
          · refine Wk.rPure 2 (some 25) (.bool true) rfl rfl (by kernel_rfl) (Wk.boolT (b := decide (k1 = k2 ∧ r1 = r2 ∧ n1 = n2 ∧ t1 = t2)) (decide_eq_true (hatt6)) (run_eql_att (.tmp 23) (.tmp 24) 36 rfl hk1 hr1 ht1 hk2 hr2 ht2 hwn1 hwn2 (by kernel_rfl) (by kernel_rfl))) ?_
            refine Wk.rPure 3 (some 26) (.bool true) rfl rfl (by kernel_rfl) (by kernel_rfl) ?_
            refine Wk.rPure 4 (some 27) (.bool false) rfl rfl (by kernel_rfl) (by kernel_rfl) ?_
            refine Wk.rPure 5 (some 28) (.bool false) rfl rfl (by kernel_rfl) (by kernel_rfl) ?_
            refine Wk.rPass 6 (some 29) rfl rfl (by kernel_rfl) ?_
            refine Wk.rPass 7 (some 30) rfl rfl (by kernel_rfl) ?_
            refine Wk.rPure 8 (some 31) (.bool false) rfl rfl (by kernel_rfl) (by kernel_rfl) ?_
            refine Wk.rPure 9 (some 32) (.bool true) rfl rfl (by kernel_rfl) (by kernel_rfl) ?_
            refine Wk.rPure 10 (some 33) (.bool true) rfl rfl (by kernel_rfl) (by kernel_rfl) ?_
            refine Wk.rPass 11 (some 34) rfl rfl (by kernel_rfl) ?_
            refine Wk.rPass 12 (some 35) rfl rfl (by kernel_rfl) ?_
            refine Wk.rPass 13 (some 36) rfl rfl (by kernel_rfl) ?_
            refine Wk.rPass 14 (some 37) rfl rfl (by kernel_rfl) ?_
            refine Wk.rPure 15 (some 38) (.bool true) rfl rfl (by kernel_rfl) (by kernel_rfl) ?_
            refine Wk.rPure 16 (some 39) (.bool true) rfl rfl (by kernel_rfl) (by kernel_rfl) ?_
            refine Wk.rPass 17 (some 40) rfl rfl (by kernel_rfl) ?_
            refine Wk.rPass 18 (some 41) rfl rfl (by kernel_rfl) ?_
            refine Wk.rPass 19 (some 42) rfl rfl (by kernel_rfl) ?_
            refine Wk.rPass 20 (some 43) rfl rfl (by kernel_rfl) ?_
            refine Wk.rPass 21 (some 44) rfl rfl (by kernel_rfl) ?_
            refine Wk.rPass 22 (some 45) rfl rfl (by kernel_rfl) ?_
            refine Wk.rPass 23 (some 46) rfl rfl (by kernel_rfl) ?_
            refine Wk.rPass 24 (some 47) rfl rfl (by kernel_rfl) ?_
            refine Wk.rPure 25 (some 48) (.bool true) rfl rfl (by kernel_rfl) (by kernel_rfl) ?_
            refine Wk.rEnd 26 rfl ?_
            refine Wk.nxt ?_
            refine wp_cond_true (by kernel_rfl) ?_
            refine wp_seq ?_
            refine Wk.reg ?_
            refine Wk.rPure 0 (some 6) (.bool false) rfl rfl (by kernel_rfl) (by kernel_rfl) ?_
            refine Wk.rEnd 1 rfl ?_
            refine Wk.nxt ?_
            refine wp_ret ?_
            refine Wk.thR ?_
            exfalso
            have o1 := Mur.cmp_flip (Mur.rawL k1 r1 n1 t1) (Mur.rawL k2 r2 n2 t2)
            have o2 := Mur.cmp_zero (Mur.rawL k1 r1 n1 t1) (Mur.rawL k2 r2 n2 t2)
            have o3 := Mur.cmp_trans (Mur.rawL k1 r1 n1 t1) (Mur.rawL k2 r2 n2 t2) (Mur.rawL k3 r3 n3 t3)
            have o4 := Mur.rawL_inj (t := t1) (t' := t2) hk1 hr1 hk2 hr2 hwn1 hwn2
            have o5 := Mur.cmp_self (Mur.rawL k1 r1 n1 t1)
            have o6 := o4.2 hatt6
            have o7 : Go.Lib.compareBytes (Mur.rawL k1 r1 n1 t1) (Mur.rawL k2 r2 n2 t2) = 0 := by rw [← o6]; exact o5
            omega
          · refine Wk.rPure 2 (some 25) (.bool false) rfl rfl (by kernel_rfl) (Wk.boolF (b := decide (k1 = k2 ∧ r1 = r2 ∧ n1 = n2 ∧ t1 = t2)) (decide_eq_false (hatt6)) (run_eql_att (.tmp 23) (.tmp 24) 36 rfl hk1 hr1 ht1 hk2 hr2 ht2 hwn1 hwn2 (by kernel_rfl) (by kernel_rfl))) ?_
            refine Wk.rPure 3 (some 26) (.bool true) rfl rfl (by kernel_rfl) (by kernel_rfl) ?_
            refine Wk.rPure 4 (some 27) (.bool false) rfl rfl (by kernel_rfl) (by kernel_rfl) ?_
            refine Wk.rPure 5 (some 28) (.bool false) rfl rfl (by kernel_rfl) (by kernel_rfl) ?_
            refine Wk.rPass 6 (some 29) rfl rfl (by kernel_rfl) ?_
            refine Wk.rPass 7 (some 30) rfl rfl (by kernel_rfl) ?_
            refine Wk.rPure 8 (some 31) (.bool false) rfl rfl (by kernel_rfl) (by kernel_rfl) ?_
            refine Wk.rPure 9 (some 32) (.bool false) rfl rfl (by kernel_rfl) (by kernel_rfl) ?_
            refine Wk.rPure 10 (some 33) (.bool false) rfl rfl (by kernel_rfl) (by kernel_rfl) ?_
            refine Wk.rPure 11 (some 34) (.bool true) rfl rfl (by kernel_rfl) (by kernel_rfl) ?_
            refine Wk.rPure 12 (some 35) (.bool true) rfl rfl (by kernel_rfl) (by kernel_rfl) ?_
            refine Wk.rPure 13 (some 36) (.bool false) rfl rfl (by kernel_rfl) (by kernel_rfl) ?_
            refine Wk.rPure 14 (some 37) (.bool false) rfl rfl (by kernel_rfl) (by kernel_rfl) ?_
            refine Wk.rPure 15 (some 38) (.bool false) rfl rfl (by kernel_rfl) (by kernel_rfl) ?_
            refine Wk.rPure 16 (some 39) (.bool false) rfl rfl (by kernel_rfl) (by kernel_rfl) ?_
            refine Wk.rPure 17 (some 40) (.bool true) rfl rfl (by kernel_rfl) (by kernel_rfl) ?_
            refine Wk.rPure 18 (some 41) (.bool true) rfl rfl (by kernel_rfl) (by kernel_rfl) ?_
            refine Wk.rPure 19 (some 42) (.bool true) rfl rfl (by kernel_rfl) (by kernel_rfl) ?_
            refine Wk.rPure 20 (some 43) (.bool true) rfl rfl (by kernel_rfl) (by kernel_rfl) ?_
            refine Wk.rPure 21 (some 44) (.bool true) rfl rfl (by kernel_rfl) (by kernel_rfl) ?_
            refine Wk.rPure 22 (some 45) (.bool false) rfl rfl (by kernel_rfl) (by kernel_rfl) ?_
            refine Wk.rPure 23 (some 46) (.bool true) rfl rfl (by kernel_rfl) (by kernel_rfl) ?_
            refine Wk.rPure 24 (some 47) (.bool true) rfl rfl (by kernel_rfl) (by kernel_rfl) ?_
            refine Wk.rPure 25 (some 48) (.bool true) rfl rfl (by kernel_rfl) (by kernel_rfl) ?_
            refine Wk.rEnd 26 rfl ?_
            refine Wk.nxt ?_
            refine wp_cond_true (by kernel_rfl) ?_
            refine wp_seq ?_
            refine Wk.reg ?_
            refine Wk.rPure 0 (some 6) (.bool false) rfl rfl (by kernel_rfl) (by kernel_rfl) ?_
            refine Wk.rEnd 1 rfl ?_
            refine Wk.nxt ?_
            refine wp_ret ?_
            refine Wk.thR ?_
            exfalso
            have o1 := Mur.cmp_flip (Mur.rawL k1 r1 n1 t1) (Mur.rawL k2 r2 n2 t2)
            have o2 := Mur.cmp_zero (Mur.rawL k1 r1 n1 t1) (Mur.rawL k2 r2 n2 t2)
            have o3 := Mur.cmp_trans (Mur.rawL k1 r1 n1 t1) (Mur.rawL k2 r2 n2 t2) (Mur.rawL k3 r3 n3 t3)
            have o4 := Mur.rawL_inj (t := t1) (t' := t2) hk1 hr1 hk2 hr2 hwn1 hwn2
            have o5 := Mur.cmp_self (Mur.rawL k1 r1 n1 t1)
            have o6 : ¬ Go.Lib.compareBytes (Mur.rawL k1 r1 n1 t1) (Mur.rawL k2 r2 n2 t2) = 0 := fun z => hatt6 (o4.1 (o2 z))
            first | omega | exact absurd (o3 (by omega) (by omega)) (by omega)
      · rw [decide_eq_false (hls6 : ¬ Go.Lib.compareBytes (Mur.rawL k2 r2 n2 t2) (Mur.rawL k3 r3 n3 t3) < 0)]
        rintro _ W10 ⟨rfl, ch10⟩
        have zz18 := ch10.size
        have sS14 := Wk.Chg.step sS10 ch10 trivial
        refine ⟨_, rfl, sS14, ?_⟩
        refine Wk.dOp 11 (by kernel_rfl) ?_
        refine Wk.oCall (some 22) 23 [.tmp 20, .tmp 21] #[36, 36] [.agg ((Mur.attC k1 r1 n1 t1).toArray), .agg ((Mur.attC k3 r3 n3 t3).toArray)] rfl rfl (by kernel_rfl) rfl (by kernel_rfl) (by kernel_rfl) ?_
        refine (Less_any k1 r1 t1 n1 hk1 hr1 ht1 k3 r3 t3 n3 hk3 hr3 ht3 W10).mono ?_
        by_cases hls8 : Go.Lib.compareBytes (Mur.rawL k1 r1 n1 t1) (Mur.rawL k3 r3 n3 t3) < 0
        · rw [decide_eq_true (hls8 : Go.Lib.compareBytes (Mur.rawL k1 r1 n1 t1) (Mur.rawL k3 r3 n3 t3) < 0)]
          rintro _ W13 ⟨rfl, ch13⟩
          have zz19 := ch13.size
          have sS15 := Wk.Chg.step sS14 ch13 trivial
          refine ⟨_, rfl, sS15, ?_⟩
          refine Wk.dVal 12 (some 7) (.bool true) rfl rfl (by kernel_rfl) (by kernel_rfl) (by kernel_rfl) (fun _ _ _ h => h) (by kernel_rfl) (fun w' hw' => by kernel_rfl) sS15 ?_
          refine Wk.dVal 13 (some 8) (.bool false) rfl rfl (by kernel_rfl) (by kernel_rfl) (by kernel_rfl) (fun _ _ _ h => h) (by kernel_rfl) (fun w' hw' => by kernel_rfl) sS15 ?_
          refine Wk.dVal 14 (some 9) (.bool false) rfl rfl (by kernel_rfl) (by kernel_rfl) (by kernel_rfl) (fun _ _ _ h => h) (by kernel_rfl) (fun w' hw' => by kernel_rfl) sS15 ?_
          refine Wk.dVal 15 (some 10) (.bool true) rfl rfl (by kernel_rfl) (by kernel_rfl) (by kernel_rfl) (fun _ _ _ h => h) (by kernel_rfl) (fun w' hw' => by kernel_rfl) sS15 ?_
          refine Wk.dEnd (by kernel_rfl) ?_
          refine Wk.nxt ?_
          refine wp_seq ?_
          refine wp_seq ?_
          refine Wk.reg ?_
          refine Wk.rPure 0 (some 23) (.agg ((Mur.attC k1 r1 n1 t1).toArray)) rfl rfl (by kernel_rfl) (Mur.loadArr 36 (.tmp 3) rfl _ Tryd.underlying36 rfl w.heap.size (by kernel_rfl) (Mur.attC k1 r1 n1 t1).toArray 97 (Mur.attC_size hk1 hr1 ht1) (by kernel_rfl) 36 (0, 0) (Wk.Chg.hp ch13 (Wk.Chg.hp ch10 (Wk.Chg.hp ch6 (Wk.Chg.hp ch5 (Wk.Chg.hp ch4 (Wk.Chg.hp ch3 (Wk.Chg.hp ch2 hb1 trivial) trivial) trivial) trivial) trivial) trivial) trivial)) ?_
          refine Wk.rPure 1 (some 24) (.agg ((Mur.attC k2 r2 n2 t2).toArray)) rfl rfl (by kernel_rfl) (Mur.loadArr 36 (.tmp 4) rfl _ Tryd.underlying36 rfl W1.heap.size (by kernel_rfl) (Mur.attC k2 r2 n2 t2).toArray 97 (Mur.attC_size hk2 hr2 ht2) (by kernel_rfl) 36 (0, 0) (Wk.Chg.hp ch13 (Wk.Chg.hp ch10 (Wk.Chg.hp ch6 (Wk.Chg.hp ch5 (Wk.Chg.hp ch4 (Wk.Chg.hp ch3 hb2 trivial) trivial) trivial) trivial) trivial) trivial)) ?_
          by_cases hatt7 : k1 = k2 ∧ r1 = r2 ∧ n1 = n2 ∧ t1 = t2
          · refine Wk.rPure 2 (some 25) (.bool true) rfl rfl (by kernel_rfl) (Wk.boolT (b := decide (k1 = k2 ∧ r1 = r2 ∧ n1 = n2 ∧ t1 = t2)) (decide_eq_true (hatt7)) (run_eql_att (.tmp 23) (.tmp 24) 36 rfl hk1 hr1 ht1 hk2 hr2 ht2 hwn1 hwn2 (by kernel_rfl) (by kernel_rfl))) ?_
            refine Wk.rPure 3 (some 26) (.bool true) rfl rfl (by kernel_rfl) (by kernel_rfl) ?_
            refine Wk.rPure 4 (some 27) (.bool false) rfl rfl (by kernel_rfl) (by kernel_rfl) ?_
            refine Wk.rPure 5 (some 28) (.bool false) rfl rfl (by kernel_rfl) (by kernel_rfl) ?_
            refine Wk.rPass 6 (some 29) rfl rfl (by kernel_rfl) ?_
            refine Wk.rPass 7 (some 30) rfl rfl (by kernel_rfl) ?_
            refine Wk.rPure 8 (some 31) (.bool false) rfl rfl (by kernel_rfl) (by kernel_rfl) ?_
            refine Wk.rPure 9 (some 32) (.bool true) rfl rfl (by kernel_rfl) (by kernel_rfl) ?_
            refine Wk.rPure 10 (some 33) (.bool true) rfl rfl (by kernel_rfl) (by kernel_rfl) ?_
            refine Wk.rPass 11 (some 34) rfl rfl (by kernel_rfl) ?_
            refine Wk.rPass 12 (some 35) rfl rfl (by kernel_rfl) ?_
            refine Wk.rPass 13 (some 36) rfl rfl (by kernel_rfl) ?_
            refine Wk.rPass 14 (some 37) rfl rfl (by kernel_rfl) ?_
            refine Wk.rPure 15 (some 38) (.bool true) rfl rfl (by kernel_rfl) (by kernel_rfl) ?_
            refine Wk.rPure 16 (some 39) (.bool true) rfl rfl (by kernel_rfl) (by kernel_rfl) ?_
            refine Wk.rPass 17 (some 40) rfl rfl (by kernel_rfl) ?_
            refine Wk.rPass 18 (some 41) rfl rfl (by kernel_rfl) ?_
            refine Wk.rPass 19 (some 42) rfl rfl (by kernel_rfl) ?_
            refine Wk.rPass 20 (some 43) rfl rfl (by kernel_rfl) ?_
            refine Wk.rPass 21 (some 44) rfl rfl (by kernel_rfl) ?_
            refine Wk.rPass 22 (some 45) rfl rfl (by kernel_rfl) ?_
            refine Wk.rPass 23 (some 46) rfl rfl (by kernel_rfl) ?_
            refine Wk.rPass 24 (some 47) rfl rfl (by kernel_rfl) ?_
            refine Wk.rPure 25 (some 48) (.bool true) rfl rfl (by kernel_rfl) (by kernel_rfl) ?_
            refine Wk.rEnd 26 rfl ?_
            refine Wk.nxt ?_
            refine wp_cond_true (by kernel_rfl) ?_
            refine wp_seq ?_
            refine Wk.reg ?_
            refine Wk.rPure 0 (some 6) (.bool false) rfl rfl (by kernel_rfl) (by kernel_rfl) ?_
            refine Wk.rEnd 1 rfl ?_
            refine Wk.nxt ?_
            refine wp_ret ?_
            refine Wk.thR ?_
            exfalso
            have o1 := Mur.cmp_flip (Mur.rawL k1 r1 n1 t1) (Mur.rawL k2 r2 n2 t2)
            have o2 := Mur.cmp_zero (Mur.rawL k1 r1 n1 t1) (Mur.rawL k2 r2 n2 t2)
            have o3 := Mur.cmp_trans (Mur.rawL k1 r1 n1 t1) (Mur.rawL k2 r2 n2 t2) (Mur.rawL k3 r3 n3 t3)
            have o4 := Mur.rawL_inj (t := t1) (t' := t2) hk1 hr1 hk2 hr2 hwn1 hwn2
            have o5 := Mur.cmp_self (Mur.rawL k1 r1 n1 t1)
            have o6 := o4.2 hatt7
            have o7 : Go.Lib.compareBytes (Mur.rawL k1 r1 n1 t1) (Mur.rawL k2 r2 n2 t2) = 0 := by rw [← o6]; exact o5
            omega
          · refine Wk.rPure 2 (some 25) (.bool false) rfl rfl (by kernel_rfl) (Wk.boolF (b := decide (k1 = k2 ∧ r1 = r2 ∧ n1 = n2 ∧ t1 = t2)) (decide_eq_false (hatt7)) (run_eql_att (.tmp 23) (.tmp 24) 36 rfl hk1 hr1 ht1 hk2 hr2 ht2 hwn1 hwn2 (by kernel_rfl) (by kernel_rfl))) ?_
            refine Wk.rPure 3 (some 26) (.bool true) rfl rfl (by kernel_rfl) (by kernel_rfl) ?_
            refine Wk.rPure 4 (some 27) (.bool false) rfl rfl (by kernel_rfl) (by kernel_rfl) ?_
            refine Wk.rPure 5 (some 28) (.bool false) rfl rfl (by kernel_rfl) (by kernel_rfl) ?_
            refine Wk.rPass 6 (some 29) rfl rfl (by kernel_rfl) ?_
            refine Wk.rPass 7 (some 30) rfl rfl (by kernel_rfl) ?_
            refine Wk.rPure 8 (some 31) (.bool false) rfl rfl (by kernel_rfl) (by kernel_rfl) ?_
            refine Wk.rPure 9 (some 32) (.bool false) rfl rfl (by kernel_rfl) (by kernel_rfl) ?_
            refine Wk.rPure 10 (some 33) (.bool false) rfl rfl (by kernel_rfl) (by kernel_rfl) ?_
            refine Wk.rPure 11 (some 34) (.bool true) rfl rfl (by kernel_rfl) (by kernel_rfl) ?_
            refine Wk.rPure 12 (some 35) (.bool true) rfl rfl (by kernel_rfl) (by kernel_rfl) ?_
            refine Wk.rPure 13 (some 36) (.bool false) rfl rfl (by kernel_rfl) (by kernel_rfl) ?_
            refine Wk.rPure 14 (some 37) (.bool false) rfl rfl (by kernel_rfl) (by kernel_rfl) ?_
            refine Wk.rPure 15 (some 38) (.bool false) rfl rfl (by kernel_rfl) (by kernel_rfl) ?_
            refine Wk.rPure 16 (some 39) (.bool false) rfl rfl (by kernel_rfl) (by kernel_rfl) ?_
            refine Wk.rPure 17 (some 40) (.bool true) rfl rfl (by kernel_rfl) (by kernel_rfl) ?_
            refine Wk.rPure 18 (some 41) (.bool true) rfl rfl (by kernel_rfl) (by kernel_rfl) ?_
            refine Wk.rPure 19 (some 42) (.bool false) rfl rfl (by kernel_rfl) (by kernel_rfl) ?_
            refine Wk.rPure 20 (some 43) (.bool false) rfl rfl (by kernel_rfl) (by kernel_rfl) ?_
            refine Wk.rPure 21 (some 44) (.bool false) rfl rfl (by kernel_rfl) (by kernel_rfl) ?_
            refine Wk.rPass 22 (some 45) rfl rfl (by kernel_rfl) ?_
            refine Wk.rPass 23 (some 46) rfl rfl (by kernel_rfl) ?_
            refine Wk.rPure 24 (some 47) (.bool false) rfl rfl (by kernel_rfl) (by kernel_rfl) ?_
            refine Wk.rPure 25 (some 48) (.bool false) rfl rfl (by kernel_rfl) (by kernel_rfl) ?_
            refine Wk.rEnd 26 rfl ?_
            refine Wk.nxt ?_
            refine wp_cond_false (by kernel_rfl) ?_
            refine wp_skip ?_
            refine Wk.nxt ?_
            refine wp_seq ?_
            refine Wk.reg ?_
            refine Wk.rCall 0 (some 49) 17 [] #[] [] rfl rfl (by kernel_rfl) rfl (by kernel_rfl) (by kernel_rfl) ?_
            have kk10 : Wk.Chg [] w W1 := Wk.Chg.step ((Wk.Chg.refl _).more (by simp)) ch1 trivial
            have kk11 := Wk.Chg.step kk10 ch2 trivial
            have kk12 := Wk.Chg.step kk11 ch3 trivial
            have kk13 := Wk.Chg.step kk12 ch4 trivial
            have kk14 := Wk.Chg.step kk13 ch5 trivial
            have kk15 := Wk.Chg.step kk14 ch6 trivial
            have kk16 := Wk.Chg.step kk15 ch10 trivial
            have kk17 := Wk.Chg.step kk16 ch13 trivial
            refine (known9_any W13 (HV.out.below (Wk.Chg.below0 kk17))).mono ?_
            rintro _ W14 ⟨rfl, ch14⟩
            have zz20 := ch14.size
            refine ⟨_, rfl, ?_⟩
            refine Wk.rPure 1 (some 6) (.bool true) rfl rfl (by kernel_rfl) (by kernel_rfl) ?_
            refine Wk.rEnd 2 rfl ?_
            refine Wk.nxt ?_
            refine wp_ret ?_
            have kk18 := Wk.Chg.step kk17 ch14 trivial
            refine Wk.ret (.bool true) rfl (by kernel_rfl) ?_
            exact ⟨rfl, Wk.Chg.below0 kk18⟩
        · rw [decide_eq_false (hls8 : ¬ Go.Lib.compareBytes (Mur.rawL k1 r1 n1 t1) (Mur.rawL k3 r3 n3 t3) < 0)]
          rintro _ W13 ⟨rfl, ch13⟩
          have zz21 := ch13.size
          have sS16 := Wk.Chg.step sS14 ch13 trivial
          refine ⟨_, rfl, sS16, ?_⟩
          refine Wk.dVal 12 (some 7) (.bool true) rfl rfl (by kernel_rfl) (by kernel_rfl) (by kernel_rfl) (fun _ _ _ h => h) (by kernel_rfl) (fun w' hw' => by kernel_rfl) sS16 ?_
          refine Wk.dVal 13 (some 8) (.bool false) rfl rfl (by kernel_rfl) (by kernel_rfl) (by kernel_rfl) (fun _ _ _ h => h) (by kernel_rfl) (fun w' hw' => by kernel_rfl) sS16 ?_
          refine Wk.dVal 14 (some 9) (.bool false) rfl rfl (by kernel_rfl) (by kernel_rfl) (by kernel_rfl) (fun _ _ _ h => h) (by kernel_rfl) (fun w' hw' => by kernel_rfl) sS16 ?_
          refine Wk.dVal 15 (some 10) (.bool false) rfl rfl (by kernel_rfl) (by kernel_rfl) (by kernel_rfl) (fun _ _ _ h => h) (by kernel_rfl) (fun w' hw' => by kernel_rfl) sS16 ?_
          refine Wk.dEnd (by kernel_rfl) ?_
          refine Wk.nxt ?_
          refine wp_seq ?_
          refine wp_seq ?_
          refine Wk.reg ?_
          refine Wk.rPure 0 (some 23) (.agg ((Mur.attC k1 r1 n1 t1).toArray)) rfl rfl (by kernel_rfl) (Mur.loadArr 36 (.tmp 3) rfl _ Tryd.underlying36 rfl w.heap.size (by kernel_rfl) (Mur.attC k1 r1 n1 t1).toArray 97 (Mur.attC_size hk1 hr1 ht1) (by kernel_rfl) 36 (0, 0) (Wk.Chg.hp ch13 (Wk.Chg.hp ch10 (Wk.Chg.hp ch6 (Wk.Chg.hp ch5 (Wk.Chg.hp ch4 (Wk.Chg.hp ch3 (Wk.Chg.hp ch2 hb1 trivial) trivial) trivial) trivial) trivial) trivial) trivial)) ?_
          refine Wk.rPure 1 (some 24) (.agg ((Mur.attC k2 r2 n2 t2).toArray)) rfl rfl (by kernel_rfl) (Mur.loadArr 36 (.tmp 4) rfl _ Tryd.underlying36 rfl W1.heap.size (by kernel_rfl) (Mur.attC k2 r2 n2 t2).toArray 97 (Mur.attC_size hk2 hr2 ht2) (by kernel_rfl) 36 (0, 0) (Wk.Chg.hp ch13 (Wk.Chg.hp ch10 (Wk.Chg.hp ch6 (Wk.Chg.hp ch5 (Wk.Chg.hp ch4 (Wk.Chg.hp ch3 hb2 trivial) trivial) trivial) trivial) trivial) trivial)) ?_
          by_cases hatt8 : k1 = k2 ∧ r1 = r2 ∧ n1 = n2 ∧ t1 = t2
          · refine Wk.rPure 2 (some 25) (.bool true) rfl rfl (by kernel_rfl) (Wk.boolT (b := decide (k1 = k2 ∧ r1 = r2 ∧ n1 = n2 ∧ t1 = t2)) (decide_eq_true (hatt8)) (run_eql_att (.tmp 23) (.tmp 24) 36 rfl hk1 hr1 ht1 hk2 hr2 ht2 hwn1 hwn2 (by kernel_rfl) (by kernel_rfl))) ?_
            refine Wk.rPure 3 (some 26) (.bool true) rfl rfl (by kernel_rfl) (by kernel_rfl) ?_
            refine Wk.rPure 4 (some 27) (.bool false) rfl rfl (by kernel_rfl) (by kernel_rfl) ?_
            refine Wk.rPure 5 (some 28) (.bool false) rfl rfl (by kernel_rfl) (by kernel_rfl) ?_
            refine Wk.rPass 6 (some 29) rfl rfl (by kernel_rfl) ?_
            refine Wk.rPass 7 (some 30) rfl rfl (by kernel_rfl) ?_
            refine Wk.rPure 8 (some 31) (.bool false) rfl rfl (by kernel_rfl) (by kernel_rfl) ?_
            refine Wk.rPure 9 (some 32) (.bool true) rfl rfl (by kernel_rfl) (by kernel_rfl) ?_
            refine Wk.rPure 10 (some 33) (.bool true) rfl rfl (by kernel_rfl) (by kernel_rfl) ?_
            refine Wk.rPass 11 (some 34) rfl rfl (by kernel_rfl) ?_
            refine Wk.rPass 12 (some 35) rfl rfl (by kernel_rfl) ?_
            refine Wk.rPass 13 (some 36) rfl rfl (by kernel_rfl) ?_
            refine Wk.rPass 14 (some 37) rfl rfl (by kernel_rfl) ?_
            refine Wk.rPure 15 (some 38) (.bool true) rfl rfl (by kernel_rfl) (by kernel_rfl) ?_
            refine Wk.rPure 16 (some 39) (.bool true) rfl rfl (by kernel_rfl) (by kernel_rfl) ?_
            refine Wk.rPass 17 (some 40) rfl rfl (by kernel_rfl) ?_
            refine Wk.rPass 18 (some 41) rfl rfl (by kernel_rfl) ?_
            refine Wk.rPass 19 (some 42) rfl rfl (by kernel_rfl) ?_
            refine Wk.rPass 20 (some 43) rfl rfl (by kernel_rfl) ?_
            refine Wk.rPass 21 (some 44) rfl rfl (by kernel_rfl) ?_
            refine Wk.rPass 22 (some 45) rfl rfl (by kernel_rfl) ?_
            refine Wk.rPass 23 (some 46) rfl rfl (by kernel_rfl) ?_
            refine Wk.rPass 24 (some 47) rfl rfl (by kernel_rfl) ?_
            refine Wk.rPure 25 (some 48) (.bool true) rfl rfl (by kernel_rfl) (by kernel_rfl) ?_
            refine Wk.rEnd 26 rfl ?_
            refine Wk.nxt ?_
            refine wp_cond_true (by kernel_rfl) ?_
            refine wp_seq ?_
            refine Wk.reg ?_
            refine Wk.rPure 0 (some 6) (.bool false) rfl rfl (by kernel_rfl) (by kernel_rfl) ?_
            refine Wk.rEnd 1 rfl ?_
            refine Wk.nxt ?_
            refine wp_ret ?_
            refine Wk.thR ?_
            exfalso
            have o1 := Mur.cmp_flip (Mur.rawL k1 r1 n1 t1) (Mur.rawL k2 r2 n2 t2)
            have o2 := Mur.cmp_zero (Mur.rawL k1 r1 n1 t1) (Mur.rawL k2 r2 n2 t2)
            have o3 := Mur.cmp_trans (Mur.rawL k1 r1 n1 t1) (Mur.rawL k2 r2 n2 t2) (Mur.rawL k3 r3 n3 t3)
            have o4 := Mur.rawL_inj (t := t1) (t' := t2) hk1 hr1 hk2 hr2 hwn1 hwn2
            have o5 := Mur.cmp_self (Mur.rawL k1 r1 n1 t1)
            have o6 := o4.2 hatt8
            have o7 : Go.Lib.compareBytes (Mur.rawL k1 r1 n1 t1) (Mur.rawL k2 r2 n2 t2) = 0 := by rw [← o6]; exact o5
            omega
          · refine Wk.rPure 2 (some 25) (.bool false) rfl rfl (by kernel_rfl) (Wk.boolF (b := decide (k1 = k2 ∧ r1 = r2 ∧ n1 = n2 ∧ t1 = t2)) (decide_eq_false (hatt8)) (run_eql_att (.tmp 23) (.tmp 24) 36 rfl hk1 hr1 ht1 hk2 hr2 ht2 hwn1 hwn2 (by kernel_rfl) (by kernel_rfl))) ?_
            refine Wk.rPure 3 (some 26) (.bool true) rfl rfl (by kernel_rfl) (by kernel_rfl) ?_
            refine Wk.rPure 4 (some 27) (.bool false) rfl rfl (by kernel_rfl) (by kernel_rfl) ?_
            refine Wk.rPure 5 (some 28) (.bool false) rfl rfl (by kernel_rfl) (by kernel_rfl) ?_
            refine Wk.rPass 6 (some 29) rfl rfl (by kernel_rfl) ?_
            refine Wk.rPass 7 (some 30) rfl rfl (by kernel_rfl) ?_
            refine Wk.rPure 8 (some 31) (.bool false) rfl rfl (by kernel_rfl) (by kernel_rfl) ?_
            refine Wk.rPure 9 (some 32) (.bool false) rfl rfl (by kernel_rfl) (by kernel_rfl) ?_
            refine Wk.rPure 10 (some 33) (.bool false) rfl rfl (by kernel_rfl) (by kernel_rfl) ?_
            refine Wk.rPure 11 (some 34) (.bool true) rfl rfl (by kernel_rfl) (by kernel_rfl) ?_
            refine Wk.rPure 12 (some 35) (.bool true) rfl rfl (by kernel_rfl) (by kernel_rfl) ?_
            refine Wk.rPure 13 (some 36) (.bool false) rfl rfl (by kernel_rfl) (by kernel_rfl) ?_
            refine Wk.rPure 14 (some 37) (.bool false) rfl rfl (by kernel_rfl) (by kernel_rfl) ?_
            refine Wk.rPure 15 (some 38) (.bool false) rfl rfl (by kernel_rfl) (by kernel_rfl) ?_
            refine Wk.rPure 16 (some 39) (.bool false) rfl rfl (by kernel_rfl) (by kernel_rfl) ?_
            refine Wk.rPure 17 (some 40) (.bool true) rfl rfl (by kernel_rfl) (by kernel_rfl) ?_
            refine Wk.rPure 18 (some 41) (.bool true) rfl rfl (by kernel_rfl) (by kernel_rfl) ?_
            refine Wk.rPure 19 (some 42) (.bool false) rfl rfl (by kernel_rfl) (by kernel_rfl) ?_
            refine Wk.rPure 20 (some 43) (.bool false) rfl rfl (by kernel_rfl) (by kernel_rfl) ?_
            refine Wk.rPure 21 (some 44) (.bool false) rfl rfl (by kernel_rfl) (by kernel_rfl) ?_
            refine Wk.rPass 22 (some 45) rfl rfl (by kernel_rfl) ?_
            refine Wk.rPass 23 (some 46) rfl rfl (by kernel_rfl) ?_
            refine Wk.rPure 24 (some 47) (.bool false) rfl rfl (by kernel_rfl) (by kernel_rfl) ?_
            refine Wk.rPure 25 (some 48) (.bool false) rfl rfl (by kernel_rfl) (by kernel_rfl) ?_
            refine Wk.rEnd 26 rfl ?_
            refine Wk.nxt ?_
            refine wp_cond_false (by kernel_rfl) ?_
            refine wp_skip ?_
            refine Wk.nxt ?_
            refine wp_seq ?_
            refine Wk.reg ?_
            refine Wk.rCall 0 (some 49) 17 [] #[] [] rfl rfl (by kernel_rfl) rfl (by kernel_rfl) (by kernel_rfl) ?_
            have kk19 : Wk.Chg [] w W1 := Wk.Chg.step ((Wk.Chg.refl _).more (by simp)) ch1 trivial
            have kk20 := Wk.Chg.step kk19 ch2 trivial
            have kk21 := Wk.Chg.step kk20 ch3 trivial
            have kk22 := Wk.Chg.step kk21 ch4 trivial
            have kk23 := Wk.Chg.step kk22 ch5 trivial
            have kk24 := Wk.Chg.step kk23 ch6 trivial
            have kk25 := Wk.Chg.step kk24 ch10 trivial
            have kk26 := Wk.Chg.step kk25 ch13 trivial
            refine (known9_any W13 (HV.out.below (Wk.Chg.below0 kk26))).mono ?_
            rintro _ W15 ⟨rfl, ch15⟩
            have zz22 := ch15.size
            refine ⟨_, rfl, ?_⟩
            refine Wk.rPure 1 (some 6) (.bool true) rfl rfl (by kernel_rfl) (by kernel_rfl) ?_
            refine Wk.rEnd 2 rfl ?_
            refine Wk.nxt ?_
            refine wp_ret ?_
            have kk27 := Wk.Chg.step kk26 ch15 trivial
            refine Wk.ret (.bool true) rfl (by kernel_rfl) ?_
            exact ⟨rfl, Wk.Chg.below0 kk27⟩
  · rw [decide_eq_false (hls1 : ¬ Go.Lib.compareBytes (Mur.rawL k1 r1 n1 t1) (Mur.rawL k2 r2 n2 t2) < 0)]
    rintro _ W5 ⟨rfl, ch5⟩
    have zz23 := ch5.size
    have sS17 := Wk.Chg.step sS1 ch5 trivial
    refine ⟨_, rfl, sS17, ?_⟩
    refine Wk.dOp 5 (by kernel_rfl) ?_
    refine Wk.oCall (some 16) 23 [.tmp 14, .tmp 15] #[36, 36] [.agg ((Mur.attC k2 r2 n2 t2).toArray), .agg ((Mur.attC k1 r1 n1 t1).toArray)] rfl rfl (by kernel_rfl) rfl (by kernel_rfl) (by kernel_rfl) ?_
    refine (Less_any k2 r2 t2 n2 hk2 hr2 ht2 k1 r1 t1 n1 hk1 hr1 ht1 W5).mono ?_
    by_cases hls9 : Go.Lib.compareBytes (Mur.rawL k2 r2 n2 t2) (Mur.rawL k1 r1 n1 t1) < 0
    · rw [decide_eq_true (hls9 : Go.Lib.compareBytes (Mur.rawL k2 r2 n2 t2) (Mur.rawL k1 r1 n1 t1) < 0)]
      rintro _ W16 ⟨rfl, ch16⟩
      have zz24 := ch16.size
      have sS18 := Wk.Chg.step sS17 ch16 trivial
      refine ⟨_, rfl, sS18, ?_⟩
      refine Wk.dOp 8 (by kernel_rfl) ?_
      refine Wk.oCall (some 19) 23 [.tmp 17, .tmp 18] #[36, 36] [.agg ((Mur.attC k2 r2 n2 t2).toArray), .agg ((Mur.attC k3 r3 n3 t3).toArray)] rfl rfl (by kernel_rfl) rfl (by kernel_rfl) (by kernel_rfl) ?_
      refine (Less_any k2 r2 t2 n2 hk2 hr2 ht2 k3 r3 t3 n3 hk3 hr3 ht3 W16).mono ?_
      by_cases hls10 : Go.Lib.compareBytes (Mur.rawL k2 r2 n2 t2) (Mur.rawL k3 r3 n3 t3) < 0
      · rw [decide_eq_true (hls10 : Go.Lib.compareBytes (Mur.rawL k2 r2 n2 t2) (Mur.rawL k3 r3 n3 t3) < 0)]
        rintro _ W17 ⟨rfl, ch17⟩
        have zz25 := ch17.size
        have sS19 := Wk.Chg.step sS18 ch17 trivial
        refine ⟨_, rfl, sS19, ?_⟩
        refine Wk.dOp 11 (by kernel_rfl) ?_
        refine Wk.oCall (some 22) 23 [.tmp 20, .tmp 21] #[36, 36] [.agg ((Mur.attC k1 r1 n1 t1).toArray), .agg ((Mur.attC k3 r3 n3 t3).toArray)] rfl rfl (by kernel_rfl) rfl (by kernel_rfl) (by kernel_rfl) ?_
        refine (Less_any k1 r1 t1 n1 hk1 hr1 ht1 k3 r3 t3 n3 hk3 hr3 ht3 W17).mono ?_
        by_cases hls11 : Go.Lib.compareBytes (Mur.rawL k1 r1 n1 t1) (Mur.rawL k3 r3 n3 t3) < 0
        · rw [decide_eq_true (hls11 : Go.Lib.compareBytes (Mur.rawL k1 r1 n1 t1) (Mur.rawL k3 r3 n3 t3) < 0)]
          rintro _ W18 ⟨rfl, ch18⟩
          have zz26 := ch18.size
          have sS20 := Wk.Chg.step sS19 ch18 trivial
          refine ⟨_, rfl, sS20, ?_⟩
          refine Wk.dVal 12 (some 7) (.bool false) rfl rfl (by kernel_rfl) (by kernel_rfl) (by kernel_rfl) (fun _ _ _ h => h) (by kernel_rfl) (fun w' hw' => by kernel_rfl) sS20 ?_
          refine Wk.dVal 13 (some 8) (.bool true) rfl rfl (by kernel_rfl) (by kernel_rfl) (by kernel_rfl) (fun _ _ _ h => h) (by kernel_rfl) (fun w' hw' => by kernel_rfl) sS20 ?_
          refine Wk.dVal 14 (some 9) (.bool true) rfl rfl (by kernel_rfl) (by kernel_rfl) (by kernel_rfl) (fun _ _ _ h => h) (by kernel_rfl) (fun w' hw' => by kernel_rfl) sS20 ?_
          refine Wk.dVal 15 (some 10) (.bool true) rfl rfl (by kernel_rfl) (by kernel_rfl) (by kernel_rfl) (fun _ _ _ h => h) (by kernel_rfl) (fun w' hw' => by kernel_rfl) sS20 ?_
          refine Wk.dEnd (by kernel_rfl) ?_
          refine Wk.nxt ?_
          refine wp_seq ?_
          refine wp_seq ?_
          refine Wk.reg ?_
          refine Wk.rPure 0 (some 23) (.agg ((Mur.attC k1 r1 n1 t1).toArray)) rfl rfl (by kernel_rfl) (Mur.loadArr 36 (.tmp 3) rfl _ Tryd.underlying36 rfl w.heap.size (by kernel_rfl) (Mur.attC k1 r1 n1 t1).toArray 97 (Mur.attC_size hk1 hr1 ht1) (by kernel_rfl) 36 (0, 0) (Wk.Chg.hp ch18 (Wk.Chg.hp ch17 (Wk.Chg.hp ch16 (Wk.Chg.hp ch5 (Wk.Chg.hp ch4 (Wk.Chg.hp ch3 (Wk.Chg.hp ch2 hb1 trivial) trivial) trivial) trivial) trivial) trivial) trivial)) ?_
          refine Wk.rPure 1 (some 24) (.agg ((Mur.attC k2 r2 n2 t2).toArray)) rfl rfl (by kernel_rfl) (Mur.loadArr 36 (.tmp 4) rfl _ Tryd.underlying36 rfl W1.heap.size (by kernel_rfl) (Mur.attC k2 r2 n2 t2).toArray 97 (Mur.attC_size hk2 hr2 ht2) (by kernel_rfl) 36 (0, 0) (Wk.Chg.hp ch18 (Wk.Chg.hp ch17 (Wk.Chg.hp ch16 (Wk.Chg.hp ch5 (Wk.Chg.hp ch4 (Wk.Chg.hp ch3 hb2 trivial) trivial) trivial) trivial) trivial) trivial)) ?_
          by_cases hatt9 : k1 = k2 ∧ r1 = r2 ∧ n1 = n2 ∧ t1 = t2
          · refine Wk.rPure 2 (some 25) (.bool true) rfl rfl (by kernel_rfl) (Wk.boolT (b := decide (k1 = k2 ∧ r1 = r2 ∧ n1 = n2 ∧ t1 = t2)) (decide_eq_true (hatt9)) (run_eql_att (.tmp 23) (.tmp 24) 36 rfl hk1 hr1 ht1 hk2 hr2 ht2 hwn1 hwn2 (by kernel_rfl) (by kernel_rfl))) ?_
            refine Wk.rPure 3 (some 26) (.bool false) rfl rfl (by kernel_rfl) (by kernel_rfl) ?_
            refine Wk.rPure 4 (some 27) (.bool true) rfl rfl (by kernel_rfl) (by kernel_rfl) ?_
            refine Wk.rPure 5 (some 28) (.bool true) rfl rfl (by kernel_rfl) (by kernel_rfl) ?_
            refine Wk.rPure 6 (some 29) (.bool true) rfl rfl (by kernel_rfl) (by kernel_rfl) ?_
            refine Wk.rPure 7 (some 30) (.bool false) rfl rfl (by kernel_rfl) (by kernel_rfl) ?_
            refine Wk.rPure 8 (some 31) (.bool false) rfl rfl (by kernel_rfl) (by kernel_rfl) ?_
            refine Wk.rPure 9 (some 32) (.bool true) rfl rfl (by kernel_rfl) (by kernel_rfl) ?_
            refine Wk.rPure 10 (some 33) (.bool true) rfl rfl (by kernel_rfl) (by kernel_rfl) ?_
            refine Wk.rPass 11 (some 34) rfl rfl (by kernel_rfl) ?_
            refine Wk.rPass 12 (some 35) rfl rfl (by kernel_rfl) ?_
            refine Wk.rPass 13 (some 36) rfl rfl (by kernel_rfl) ?_
            refine Wk.rPass 14 (some 37) rfl rfl (by kernel_rfl) ?_
            refine Wk.rPure 15 (some 38) (.bool true) rfl rfl (by kernel_rfl) (by kernel_rfl) ?_
            refine Wk.rPure 16 (some 39) (.bool true) rfl rfl (by kernel_rfl) (by kernel_rfl) ?_
            refine Wk.rPass 17 (some 40) rfl rfl (by kernel_rfl) ?_
            refine Wk.rPass 18 (some 41) rfl rfl (by kernel_rfl) ?_
            refine Wk.rPass 19 (some 42) rfl rfl (by kernel_rfl) ?_
            refine Wk.rPass 20 (some 43) rfl rfl (by kernel_rfl) ?_
            refine Wk.rPass 21 (some 44) rfl rfl (by kernel_rfl) ?_
            refine Wk.rPass 22 (some 45) rfl rfl (by kernel_rfl) ?_
            refine Wk.rPass 23 (some 46) rfl rfl (by kernel_rfl) ?_
            refine Wk.rPass 24 (some 47) rfl rfl (by kernel_rfl) ?_
            refine Wk.rPure 25 (some 48) (.bool true) rfl rfl (by kernel_rfl) (by kernel_rfl) ?_
            refine Wk.rEnd 26 rfl ?_
            refine Wk.nxt ?_
            refine wp_cond_true (by kernel_rfl) ?_
            refine wp_seq ?_
            refine Wk.reg ?_
            refine Wk.rPure 0 (some 6) (.bool false) rfl rfl (by kernel_rfl) (by kernel_rfl) ?_
            refine Wk.rEnd 1 rfl ?_
            refine Wk.nxt ?_
            refine wp_ret ?_
            refine Wk.thR ?_
            exfalso
            have o1 := Mur.cmp_flip (Mur.rawL k1 r1 n1 t1) (Mur.rawL k2 r2 n2 t2)
            have o2 := Mur.cmp_zero (Mur.rawL k1 r1 n1 t1) (Mur.rawL k2 r2 n2 t2)
            have o3 := Mur.cmp_trans (Mur.rawL k1 r1 n1 t1) (Mur.rawL k2 r2 n2 t2) (Mur.rawL k3 r3 n3 t3)
            have o4 := Mur.rawL_inj (t := t1) (t' := t2) hk1 hr1 hk2 hr2 hwn1 hwn2
            have o5 := Mur.cmp_self (Mur.rawL k1 r1 n1 t1)
            have o6 := o4.2 hatt9
            have o7 : Go.Lib.compareBytes (Mur.rawL k1 r1 n1 t1) (Mur.rawL k2 r2 n2 t2) = 0 := by rw [← o6]; exact o5
            omega
          · refine Wk.rPure 2 (some 25) (.bool false) rfl rfl (by kernel_rfl) (Wk.boolF (b := decide (k1 = k2 ∧ r1 = r2 ∧ n1 = n2 ∧ t1 = t2)) (decide_eq_false (hatt9)) (run_eql_att (.tmp 23) (.tmp 24) 36 rfl hk1 hr1 ht1 hk2 hr2 ht2 hwn1 hwn2 (by kernel_rfl) (by kernel_rfl))) ?_
            refine Wk.rPure 3 (some 26) (.bool false) rfl rfl (by kernel_rfl) (by kernel_rfl) ?_
            refine Wk.rPure 4 (some 27) (.bool true) rfl rfl (by kernel_rfl) (by kernel_rfl) ?_
            refine Wk.rPure 5 (some 28) (.bool true) rfl rfl (by kernel_rfl) (by kernel_rfl) ?_
            refine Wk.rPure 6 (some 29) (.bool true) rfl rfl (by kernel_rfl) (by kernel_rfl) ?_
            refine Wk.rPure 7 (some 30) (.bool false) rfl rfl (by kernel_rfl) (by kernel_rfl) ?_
            refine Wk.rPure 8 (some 31) (.bool false) rfl rfl (by kernel_rfl) (by kernel_rfl) ?_
            refine Wk.rPure 9 (some 32) (.bool false) rfl rfl (by kernel_rfl) (by kernel_rfl) ?_
            refine Wk.rPure 10 (some 33) (.bool false) rfl rfl (by kernel_rfl) (by kernel_rfl) ?_
            refine Wk.rPure 11 (some 34) (.bool false) rfl rfl (by kernel_rfl) (by kernel_rfl) ?_
            refine Wk.rPure 12 (some 35) (.bool false) rfl rfl (by kernel_rfl) (by kernel_rfl) ?_
            refine Wk.rPass 13 (some 36) rfl rfl (by kernel_rfl) ?_
            refine Wk.rPure 14 (some 37) (.bool false) rfl rfl (by kernel_rfl) (by kernel_rfl) ?_
            refine Wk.rPure 15 (some 38) (.bool false) rfl rfl (by kernel_rfl) (by kernel_rfl) ?_
            refine Wk.rPure 16 (some 39) (.bool false) rfl rfl (by kernel_rfl) (by kernel_rfl) ?_
            refine Wk.rPure 17 (some 40) (.bool false) rfl rfl (by kernel_rfl) (by kernel_rfl) ?_
            refine Wk.rPure 18 (some 41) (.bool false) rfl rfl (by kernel_rfl) (by kernel_rfl) ?_
            refine Wk.rPass 19 (some 42) rfl rfl (by kernel_rfl) ?_
            refine Wk.rPure 20 (some 43) (.bool false) rfl rfl (by kernel_rfl) (by kernel_rfl) ?_
            refine Wk.rPure 21 (some 44) (.bool false) rfl rfl (by kernel_rfl) (by kernel_rfl) ?_
            refine Wk.rPass 22 (some 45) rfl rfl (by kernel_rfl) ?_
            refine Wk.rPass 23 (some 46) rfl rfl (by kernel_rfl) ?_
            refine Wk.rPure 24 (some 47) (.bool false) rfl rfl (by kernel_rfl) (by kernel_rfl) ?_
            refine Wk.rPure 25 (some 48) (.bool false) rfl rfl (by kernel_rfl) (by kernel_rfl) ?_
            refine Wk.rEnd 26 rfl ?_
            refine Wk.nxt ?_
            refine wp_cond_false (by kernel_rfl) ?_
            refine wp_skip ?_
            refine Wk.nxt ?_
            refine wp_seq ?_
            refine Wk.reg ?_
            refine Wk.rCall 0 (some 49) 17 [] #[] [] rfl rfl (by kernel_rfl) rfl (by kernel_rfl) (by kernel_rfl) ?_
            have kk28 : Wk.Chg [] w W1 := Wk.Chg.step ((Wk.Chg.refl _).more (by simp)) ch1 trivial
            have kk29 := Wk.Chg.step kk28 ch2 trivial
            have kk30 := Wk.Chg.step kk29 ch3 trivial
            have kk31 := Wk.Chg.step kk30 ch4 trivial
            have kk32 := Wk.Chg.step kk31 ch5 trivial
            have kk33 := Wk.Chg.step kk32 ch16 trivial
            have kk34 := Wk.Chg.step kk33 ch17 trivial
            have kk35 := Wk.Chg.step kk34 ch18 trivial
            refine (known9_any W18 (HV.out.below (Wk.Chg.below0 kk35))).mono ?_
            rintro _ W19 ⟨rfl, ch19⟩
            have zz27 := ch19.size
            refine ⟨_, rfl, ?_⟩
            refine Wk.rPure 1 (some 6) (.bool true) rfl rfl (by kernel_rfl) (by kernel_rfl) ?_
            refine Wk.rEnd 2 rfl ?_
            refine Wk.nxt ?_
            refine wp_ret ?_
            have kk36 := Wk.Chg.step kk35 ch19 trivial
            refine Wk.ret (.bool true) rfl (by kernel_rfl) ?_
            exact ⟨rfl, Wk.Chg.below0 kk36⟩
        · rw [decide_eq_false (hls11 : ¬ Go.Lib.compareBytes (Mur.rawL k1 r1 n1 t1) (Mur.rawL k3 r3 n3 t3) < 0)]
          rintro _ W18 ⟨rfl, ch18⟩
          have zz28 := ch18.size
          have sS21 := Wk.Chg.step sS19 ch18 trivial
          refine ⟨_, rfl, sS21, ?_⟩
          refine Wk.dVal 12 (some 7) (.bool false) rfl rfl (by kernel_rfl) (by kernel_rfl) (by kernel_rfl) (fun _ _ _ h => h) (by kernel_rfl) (fun w' hw' => by kernel_rfl) sS21 ?_
          refine Wk.dVal 13 (some 8) (.bool true) rfl rfl (by kernel_rfl) (by kernel_rfl) (by kernel_rfl) (fun _ _ _ h => h) (by kernel_rfl) (fun w' hw' => by kernel_rfl) sS21 ?_
          refine Wk.dVal 14 (some 9) (.bool true) rfl rfl (by kernel_rfl) (by kernel_rfl) (by kernel_rfl) (fun _ _ _ h => h) (by kernel_rfl) (fun w' hw' => by kernel_rfl) sS21 ?_
          refine Wk.dVal 15 (some 10) (.bool false) rfl rfl (by kernel_rfl) (by kernel_rfl) (by kernel_rfl) (fun _ _ _ h => h) (by kernel_rfl) (fun w' hw' => by kernel_rfl) sS21 ?_
          refine Wk.dEnd (by kernel_rfl) ?_
          refine Wk.nxt ?_
          refine wp_seq ?_
          refine wp_seq ?_
          refine Wk.reg ?_
          refine Wk.rPure 0 (some 23) (.agg ((Mur.attC k1 r1 n1 t1).toArray)) rfl rfl (by kernel_rfl) (Mur.loadArr 36 (.tmp 3) rfl _ Tryd.underlying36 rfl w.heap.size (by kernel_rfl) (Mur.attC k1 r1 n1 t1).toArray 97 (Mur.attC_size hk1 hr1 ht1) (by kernel_rfl) 36 (0, 0) (Wk.Chg.hp ch18 (Wk.Chg.hp ch17 (Wk.Chg.hp ch16 (Wk.Chg.hp ch5 (Wk.Chg.hp ch4 (Wk.Chg.hp ch3 (Wk.Chg.hp ch2 hb1 trivial) trivial) trivial) trivial) trivial) trivial) trivial)) ?_
          refine Wk.rPure 1 (some 24) (.agg ((Mur.attC k2 r2 n2 t2).toArray)) rfl rfl (by kernel_rfl) (Mur.loadArr 36 (.tmp 4) rfl _ Tryd.underlying36 rfl W1.heap.size (by kernel_rfl) (Mur.attC k2 r2 n2 t2).toArray 97 (Mur.attC_size hk2 hr2 ht2) (by kernel_rfl) 36 (0, 0) (Wk.Chg.hp ch18 (Wk.Chg.hp ch17 (Wk.Chg.hp ch16 (Wk.Chg.hp ch5 (Wk.Chg.hp ch4 (Wk.Chg.hp ch3 hb2 trivial) trivial) trivial) trivial) trivial) trivial)) ?_
          by_cases hatt10 : k1 = k2 ∧ r1 = r2 ∧ n1 = n2 ∧ t1 = t2
          · refine Wk.rPure 2 (some 25) (.bool true) rfl rfl (by kernel_rfl) (Wk.boolT (b := decide (k1 = k2 ∧ r1 = r2 ∧ n1 = n2 ∧ t1 = t2)) (decide_eq_true (hatt10)) (run_eql_att (.tmp 23) (.tmp 24) 36 rfl hk1 hr1 ht1 hk2 hr2 ht2 hwn1 hwn2 (by kernel_rfl) (by kernel_rfl))) ?_
            refine Wk.rPure 3 (some 26) (.bool false) rfl rfl (by kernel_rfl) (by kernel_rfl) ?_
            refine Wk.rPure 4 (some 27) (.bool true) rfl rfl (by kernel_rfl) (by kernel_rfl) ?_
            refine Wk.rPure 5 (some 28) (.bool true) rfl rfl (by kernel_rfl) (by kernel_rfl) ?_
            refine Wk.rPure 6 (some 29) (.bool true) rfl rfl (by kernel_rfl) (by kernel_rfl) ?_
            refine Wk.rPure 7 (some 30) (.bool false) rfl rfl (by kernel_rfl) (by kernel_rfl) ?_
            refine Wk.rPure 8 (some 31) (.bool false) rfl rfl (by kernel_rfl) (by kernel_rfl) ?_
            refine Wk.rPure 9 (some 32) (.bool true) rfl rfl (by kernel_rfl) (by kernel_rfl) ?_
            refine Wk.rPure 10 (some 33) (.bool true) rfl rfl (by kernel_rfl) (by kernel_rfl) ?_
            refine Wk.rPass 11 (some 34) rfl rfl (by kernel_rfl) ?_
            refine Wk.rPass 12 (some 35) rfl rfl (by kernel_rfl) ?_
            refine Wk.rPass 13 (some 36) rfl rfl (by kernel_rfl) ?_
            refine Wk.rPass 14 (some 37) rfl rfl (by kernel_rfl) ?_
            refine Wk.rPure 15 (some 38) (.bool true) rfl rfl (by kernel_rfl) (by kernel_rfl) ?_
            refine Wk.rPure 16 (some 39) (.bool true) rfl rfl (by kernel_rfl) (by kernel_rfl) ?_
            refine Wk.rPass 17 (some 40) rfl rfl (by kernel_rfl) ?_
            refine Wk.rPass 18 (some 41) rfl rfl (by kernel_rfl) ?_
            refine Wk.rPass 19 (some 42) rfl rfl (by kernel_rfl) ?_
            refine Wk.rPass 20 (some 43) rfl rfl (by kernel_rfl) ?_
            refine Wk.rPass 21 (some 44) rfl rfl (by kernel_rfl) ?_
            refine Wk.rPass 22 (some 45) rfl rfl (by kernel_rfl) ?_
            refine Wk.rPass 23 (some 46) rfl rfl (by kernel_rfl) ?_
            refine Wk.rPass 24 (some 47) rfl rfl (by kernel_rfl) ?_
            refine Wk.rPure 25 (some 48) (.bool true) rfl rfl (by kernel_rfl) (by kernel_rfl) ?_
            refine Wk.rEnd 26 rfl ?_
            refine Wk.nxt ?_
            refine wp_cond_true (by kernel_rfl) ?_
            refine wp_seq ?_
            refine Wk.reg ?_
            refine Wk.rPure 0 (some 6) (.bool false) rfl rfl (by kernel_rfl) (by kernel_rfl) ?_
            refine Wk.rEnd 1 rfl ?_
            refine Wk.nxt ?_
            refine wp_ret ?_
            refine Wk.thR ?_
            exfalso
            have o1 := Mur.cmp_flip (Mur.rawL k1 r1 n1 t1) (Mur.rawL k2 r2 n2 t2)
            have o2 := Mur.cmp_zero (Mur.rawL k1 r1 n1 t1) (Mur.rawL k2 r2 n2 t2)
            have o3 := Mur.cmp_trans (Mur.rawL k1 r1 n1 t1) (Mur.rawL k2 r2 n2 t2) (Mur.rawL k3 r3 n3 t3)
            have o4 := Mur.rawL_inj (t := t1) (t' := t2) hk1 hr1 hk2 hr2 hwn1 hwn2
            have o5 := Mur.cmp_self (Mur.rawL k1 r1 n1 t1)
            have o6 := o4.2 hatt10
            have o7 : Go.Lib.compareBytes (Mur.rawL k1 r1 n1 t1) (Mur.rawL k2 r2 n2 t2) = 0 := by rw [← o6]; exact o5
            omega
          · refine Wk.rPure 2 (some 25) (.bool false) rfl rfl (by kernel_rfl) (Wk.boolF (b := decide (k1 = k2 ∧ r1 = r2 ∧ n1 = n2 ∧ t1 = t2)) (decide_eq_false (hatt10)) (run_eql_att (.tmp 23) (.tmp 24) 36 rfl hk1 hr1 ht1 hk2 hr2 ht2 hwn1 hwn2 (by kernel_rfl) (by kernel_rfl))) ?_
            refine Wk.rPure 3 (some 26) (.bool false) rfl rfl (by kernel_rfl) (by kernel_rfl) ?_
            refine Wk.rPure 4 (some 27) (.bool true) rfl rfl (by kernel_rfl) (by kernel_rfl) ?_
            refine Wk.rPure 5 (some 28) (.bool true) rfl rfl (by kernel_rfl) (by kernel_rfl) ?_
            refine Wk.rPure 6 (some 29) (.bool true) rfl rfl (by kernel_rfl) (by kernel_rfl) ?_
            refine Wk.rPure 7 (some 30) (.bool false) rfl rfl (by kernel_rfl) (by kernel_rfl) ?_
            refine Wk.rPure 8 (some 31) (.bool false) rfl rfl (by kernel_rfl) (by kernel_rfl) ?_
            refine Wk.rPure 9 (some 32) (.bool false) rfl rfl (by kernel_rfl) (by kernel_rfl) ?_
            refine Wk.rPure 10 (some 33) (.bool false) rfl rfl (by kernel_rfl) (by kernel_rfl) ?_
            refine Wk.rPure 11 (some 34) (.bool false) rfl rfl (by kernel_rfl) (by kernel_rfl) ?_
            refine Wk.rPure 12 (some 35) (.bool false) rfl rfl (by kernel_rfl) (by kernel_rfl) ?_
            refine Wk.rPass 13 (some 36) rfl rfl (by kernel_rfl) ?_
            refine Wk.rPure 14 (some 37) (.bool false) rfl rfl (by kernel_rfl) (by kernel_rfl) ?_
            refine Wk.rPure 15 (some 38) (.bool false) rfl rfl (by kernel_rfl) (by kernel_rfl) ?_
            refine Wk.rPure 16 (some 39) (.bool false) rfl rfl (by kernel_rfl) (by kernel_rfl) ?_
            refine Wk.rPure 17 (some 40) (.bool false) rfl rfl (by kernel_rfl) (by kernel_rfl) ?_
            refine Wk.rPure 18 (some 41) (.bool false) rfl rfl (by kernel_rfl) (by kernel_rfl) ?_
            refine Wk.rPass 19 (some 42) rfl rfl (by kernel_rfl) ?_
            refine Wk.rPure 20 (some 43) (.bool false) rfl rfl (by kernel_rfl) (by kernel_rfl) ?_
            refine Wk.rPure 21 (some 44) (.bool false) rfl rfl (by kernel_rfl) (by kernel_rfl) ?_
            refine Wk.rPass 22 (some 45) rfl rfl (by kernel_rfl) ?_
            refine Wk.rPass 23 (some 46) rfl rfl (by kernel_rfl) ?_
            refine Wk.rPure 24 (some 47) (.bool false) rfl rfl (by kernel_rfl) (by kernel_rfl) ?_
            refine Wk.rPure 25 (some 48) (.bool false) rfl rfl (by kernel_rfl) (by kernel_rfl) ?_
            refine Wk.rEnd 26 rfl ?_
            refine Wk.nxt ?_
            refine wp_cond_false (by kernel_rfl) ?_
            refine wp_skip ?_
            refine Wk.nxt ?_
            refine wp_seq ?_
            refine Wk.reg ?_
            refine Wk.rCall 0 (some 49) 17 [] #[] [] rfl rfl (by kernel_rfl) rfl (by kernel_rfl) (by kernel_rfl) ?_
            have kk37 : Wk.Chg [] w W1 := Wk.Chg.step ((Wk.Chg.refl _).more (by simp)) ch1 trivial
            have kk38 := Wk.Chg.step kk37 ch2 trivial
            have kk39 := Wk.Chg.step kk38 ch3 trivial
            have kk40 := Wk.Chg.step kk39 ch4 trivial
            have kk41 := Wk.Chg.step kk40 ch5 trivial
            have kk42 := Wk.Chg.step kk41 ch16 trivial
            have kk43 := Wk.Chg.step kk42 ch17 trivial
            have kk44 := Wk.Chg.step kk43 ch18 trivial
            refine (known9_any W18 (HV.out.below (Wk.Chg.below0 kk44))).mono ?_
            rintro _ W20 ⟨rfl, ch20⟩
            have zz29 := ch20.size
            refine ⟨_, rfl, ?_⟩
            refine Wk.rPure 1 (some 6) (.bool true) rfl rfl (by kernel_rfl) (by kernel_rfl) ?_
            refine Wk.rEnd 2 rfl ?_
            refine Wk.nxt ?_
            refine wp_ret ?_
            have kk45 := Wk.Chg.step kk44 ch20 trivial
            refine Wk.ret (.bool true) rfl (by kernel_rfl) ?_
            exact ⟨rfl, Wk.Chg.below0 kk45⟩
      · rw [decide_eq_false (hls10 : ¬ Go.Lib.compareBytes (Mur.rawL k2 r2 n2 t2) (Mur.rawL k3 r3 n3 t3) < 0)]
        rintro _ W17 ⟨rfl, ch17⟩
        have zz30 := ch17.size
        have sS22 := Wk.Chg.step sS18 ch17 trivial
        refine ⟨_, rfl, sS22, ?_⟩
        refine Wk.dOp 11 (by kernel_rfl) ?_
        refine Wk.oCall (some 22) 23 [.tmp 20, .tmp 21] #[36, 36] [.agg ((Mur.attC k1 r1 n1 t1).toArray), .agg ((Mur.attC k3 r3 n3 t3).toArray)] rfl rfl (by kernel_rfl) rfl (by kernel_rfl) (by kernel_rfl) ?_
        refine (Less_any k1 r1 t1 n1 hk1 hr1 ht1 k3 r3 t3 n3 hk3 hr3 ht3 W17).mono ?_
        by_cases hls12 : Go.Lib.compareBytes (Mur.rawL k1 r1 n1 t1) (Mur.rawL k3 r3 n3 t3) < 0
        · rw [decide_eq_true (hls12 : Go.Lib.compareBytes (Mur.rawL k1 r1 n1 t1) (Mur.rawL k3 r3 n3 t3) < 0)]
          rintro _ W21 ⟨rfl, ch21⟩
          have zz31 := ch21.size
          have sS23 := Wk.Chg.step sS22 ch21 trivial
          refine ⟨_, rfl, sS23, ?_⟩
          refine Wk.dVal 12 (some 7) (.bool false) rfl rfl (by kernel_rfl) (by kernel_rfl) (by kernel_rfl) (fun _ _ _ h => h) (by kernel_rfl) (fun w' hw' => by kernel_rfl) sS23 ?_
          refine Wk.dVal 13 (some 8) (.bool true) rfl rfl (by kernel_rfl) (by kernel_rfl) (by kernel_rfl) (fun _ _ _ h => h) (by kernel_rfl) (fun w' hw' => by kernel_rfl) sS23 ?_
          refine Wk.dVal 14 (some 9) (.bool false) rfl rfl (by kernel_rfl) (by kernel_rfl) (by kernel_rfl) (fun _ _ _ h => h) (by kernel_rfl) (fun w' hw' => by kernel_rfl) sS23 ?_
          refine Wk.dVal 15 (some 10) (.bool true) rfl rfl (by kernel_rfl) (by kernel_rfl) (by kernel_rfl) (fun _ _ _ h => h) (by kernel_rfl) (fun w' hw' => by kernel_rfl) sS23 ?_
          refine Wk.dEnd (by kernel_rfl) ?_
          refine Wk.nxt ?_
          refine wp_seq ?_
          refine wp_seq ?_
          refine Wk.reg ?_
          refine Wk.rPure 0 (some 23) (.agg ((Mur.attC k1 r1 n1 t1).toArray)) rfl rfl (by kernel_rfl) (Mur.loadArr 36 (.tmp 3) rfl _ Tryd.underlying36 rfl w.heap.size (by kernel_rfl) (Mur.attC k1 r1 n1 t1).toArray 97 (Mur.attC_size hk1 hr1 ht1) (by kernel_rfl) 36 (0, 0) (Wk.Chg.hp ch21 (Wk.Chg.hp ch17 (Wk.Chg.hp ch16 (Wk.Chg.hp ch5 (Wk.Chg.hp ch4 (Wk.Chg.hp ch3 (Wk.Chg.hp ch2 hb1 trivial) trivial) trivial) trivial) trivial) trivial) trivial)) ?_
          refine Wk.rPure 1 (some 24) (.agg ((Mur.attC k2 r2 n2 t2).toArray)) rfl rfl (by kernel_rfl) (Mur.loadArr 36 (.tmp 4) rfl _ Tryd.underlying36 rfl W1.heap.size (by kernel_rfl) (Mur.attC k2 r2 n2 t2).toArray 97 (Mur.attC_size hk2 hr2 ht2) (by kernel_rfl) 36 (0, 0) (Wk.Chg.hp ch21 (Wk.Chg.hp ch17 (Wk.Chg.hp ch16 (Wk.Chg.hp ch5 (Wk.Chg.hp ch4 (Wk.Chg.hp ch3 hb2 trivial) trivial) trivial) trivial) trivial) trivial)) ?_
          by_cases hatt11 : k1 = k2 ∧ r1 = r2 ∧ n1 = n2 ∧ t1 = t2
          · refine Wk.rPure 2 (some 25) (.bool true) rfl rfl (by kernel_rfl) (Wk.boolT (b := decide (k1 = k2 ∧ r1 = r2 ∧ n1 = n2 ∧ t1 = t2)) (decide_eq_true (hatt11)) (run_eql_att (.tmp 23) (.tmp 24) 36 rfl hk1 hr1 ht1 hk2 hr2 ht2 hwn1 hwn2 (by kernel_rfl) (by kernel_rfl))) ?_
            refine Wk.rPure 3 (some 26) (.bool false) rfl rfl (by kernel_rfl) (by kernel_rfl) ?_
            refine Wk.rPure 4 (some 27) (.bool true) rfl rfl (by kernel_rfl) (by kernel_rfl) ?_
            refine Wk.rPure 5 (some 28) (.bool true) rfl rfl (by kernel_rfl) (by kernel_rfl) ?_
            refine Wk.rPure 6 (some 29) (.bool true) rfl rfl (by kernel_rfl) (by kernel_rfl) ?_
            refine Wk.rPure 7 (some 30) (.bool false) rfl rfl (by kernel_rfl) (by kernel_rfl) ?_
            refine Wk.rPure 8 (some 31) (.bool false) rfl rfl (by kernel_rfl) (by kernel_rfl) ?_
            refine Wk.rPure 9 (some 32) (.bool true) rfl rfl (by kernel_rfl) (by kernel_rfl) ?_
            refine Wk.rPure 10 (some 33) (.bool true) rfl rfl (by kernel_rfl) (by kernel_rfl) ?_
            refine Wk.rPass 11 (some 34) rfl rfl (by kernel_rfl) ?_
            refine Wk.rPass 12 (some 35) rfl rfl (by kernel_rfl) ?_
            refine Wk.rPass 13 (some 36) rfl rfl (by kernel_rfl) ?_
            refine Wk.rPass 14 (some 37) rfl rfl (by kernel_rfl) ?_
            refine Wk.rPure 15 (some 38) (.bool true) rfl rfl (by kernel_rfl) (by kernel_rfl) ?_
            refine Wk.rPure 16 (some 39) (.bool true) rfl rfl (by kernel_rfl) (by kernel_rfl) ?_
            refine Wk.rPass 17 (some 40) rfl rfl (by kernel_rfl) ?_
            refine Wk.rPass 18 (some 41) rfl rfl (by kernel_rfl) ?_
            refine Wk.rPass 19 (some 42) rfl rfl (by kernel_rfl) ?_
            refine Wk.rPass 20 (some 43) rfl rfl (by kernel_rfl) ?_
            refine Wk.rPass 21 (some 44) rfl rfl (by kernel_rfl) ?_
            refine Wk.rPass 22 (some 45) rfl rfl (by kernel_rfl) ?_
            refine Wk.rPass 23 (some 46) rfl rfl (by kernel_rfl) ?_
            refine Wk.rPass 24 (some 47) rfl rfl (by kernel_rfl) ?_
            refine Wk.rPure 25 (some 48) (.bool true) rfl rfl (by kernel_rfl) (by kernel_rfl) ?_
            refine Wk.rEnd 26 rfl ?_
            refine Wk.nxt ?_
            refine wp_cond_true (by kernel_rfl) ?_
            refine wp_seq ?_
            refine Wk.reg ?_
            refine Wk.rPure 0 (some 6) (.bool false) rfl rfl (by kernel_rfl) (by kernel_rfl) ?_
            refine Wk.rEnd 1 rfl ?_
            refine Wk.nxt ?_
            refine wp_ret ?_
            refine Wk.thR ?_
            exfalso
            have o1 := Mur.cmp_flip (Mur.rawL k1 r1 n1 t1) (Mur.rawL k2 r2 n2 t2)
            have o2 := Mur.cmp_zero (Mur.rawL k1 r1 n1 t1) (Mur.rawL k2 r2 n2 t2)
            have o3 := Mur.cmp_trans (Mur.rawL k1 r1 n1 t1) (Mur.rawL k2 r2 n2 t2) (Mur.rawL k3 r3 n3 t3)
            have o4 := Mur.rawL_inj (t := t1) (t' := t2) hk1 hr1 hk2 hr2 hwn1 hwn2
            have o5 := Mur.cmp_self (Mur.rawL k1 r1 n1 t1)
            have o6 := o4.2 hatt11
            have o7 : Go.Lib.compareBytes (Mur.rawL k1 r1 n1 t1) (Mur.rawL k2 r2 n2 t2) = 0 := by rw [← o6]; exact o5
            omega
          · refine Wk.rPure 2 (some 25) (.bool false) rfl rfl (by kernel_rfl) (Wk.boolF (b := decide (k1 = k2 ∧ r1 = r2 ∧ n1 = n2 ∧ t1 = t2)) (decide_eq_false (hatt11)) (run_eql_att (.tmp 23) (.tmp 24) 36 rfl hk1 hr1 ht1 hk2 hr2 ht2 hwn1 hwn2 (by kernel_rfl) (by kernel_rfl))) ?_
            refine Wk.rPure 3 (some 26) (.bool false) rfl rfl (by kernel_rfl) (by kernel_rfl) ?_
            refine Wk.rPure 4 (some 27) (.bool true) rfl rfl (by kernel_rfl) (by kernel_rfl) ?_
            refine Wk.rPure 5 (some 28) (.bool true) rfl rfl (by kernel_rfl) (by kernel_rfl) ?_
            refine Wk.rPure 6 (some 29) (.bool true) rfl rfl (by kernel_rfl) (by kernel_rfl) ?_
            refine Wk.rPure 7 (some 30) (.bool false) rfl rfl (by kernel_rfl) (by kernel_rfl) ?_
            refine Wk.rPure 8 (some 31) (.bool false) rfl rfl (by kernel_rfl) (by kernel_rfl) ?_
            refine Wk.rPure 9 (some 32) (.bool false) rfl rfl (by kernel_rfl) (by kernel_rfl) ?_
            refine Wk.rPure 10 (some 33) (.bool false) rfl rfl (by kernel_rfl) (by kernel_rfl) ?_
            refine Wk.rPure 11 (some 34) (.bool false) rfl rfl (by kernel_rfl) (by kernel_rfl) ?_
            refine Wk.rPure 12 (some 35) (.bool false) rfl rfl (by kernel_rfl) (by kernel_rfl) ?_
            refine Wk.rPass 13 (some 36) rfl rfl (by kernel_rfl) ?_
            refine Wk.rPure 14 (some 37) (.bool false) rfl rfl (by kernel_rfl) (by kernel_rfl) ?_
            refine Wk.rPure 15 (some 38) (.bool false) rfl rfl (by kernel_rfl) (by kernel_rfl) ?_
            refine Wk.rPure 16 (some 39) (.bool false) rfl rfl (by kernel_rfl) (by kernel_rfl) ?_
            refine Wk.rPure 17 (some 40) (.bool false) rfl rfl (by kernel_rfl) (by kernel_rfl) ?_
            refine Wk.rPure 18 (some 41) (.bool false) rfl rfl (by kernel_rfl) (by kernel_rfl) ?_
            refine Wk.rPass 19 (some 42) rfl rfl (by kernel_rfl) ?_
            refine Wk.rPure 20 (some 43) (.bool false) rfl rfl (by kernel_rfl) (by kernel_rfl) ?_
            refine Wk.rPure 21 (some 44) (.bool false) rfl rfl (by kernel_rfl) (by kernel_rfl) ?_
            refine Wk.rPass 22 (some 45) rfl rfl (by kernel_rfl) ?_
            refine Wk.rPass 23 (some 46) rfl rfl (by kernel_rfl) ?_
            refine Wk.rPure 24 (some 47) (.bool false) rfl rfl (by kernel_rfl) (by kernel_rfl) ?_
            refine Wk.rPure 25 (some 48) (.bool false) rfl rfl (by kernel_rfl) (by kernel_rfl) ?_
            refine Wk.rEnd 26 rfl ?_
            refine Wk.nxt ?_
            refine wp_cond_false (by kernel_rfl) ?_
            refine wp_skip ?_
            refine Wk.nxt ?_
            refine wp_seq ?_
            refine Wk.reg ?_
            refine Wk.rCall 0 (some 49) 17 [] #[] [] rfl rfl (by kernel_rfl) rfl (by kernel_rfl) (by kernel_rfl) ?_
            have kk46 : Wk.Chg [] w W1 := Wk.Chg.step ((Wk.Chg.refl _).more (by simp)) ch1 trivial
            have kk47 := Wk.Chg.step kk46 ch2 trivial
            have kk48 := Wk.Chg.step kk47 ch3 trivial
            have kk49 := Wk.Chg.step kk48 ch4 trivial
            have kk50 := Wk.Chg.step kk49 ch5 trivial
            have kk51 := Wk.Chg.step kk50 ch16 trivial
            have kk52 := Wk.Chg.step kk51 ch17 trivial
            have kk53 := Wk.Chg.step kk52 ch21 trivial
            refine (known9_any W21 (HV.out.below (Wk.Chg.below0 kk53))).mono ?_
            rintro _ W22 ⟨rfl, ch22⟩
            have zz32 := ch22.size
            refine ⟨_, rfl, ?_⟩
            refine Wk.rPure 1 (some 6) (.bool true) rfl rfl (by kernel_rfl) (by kernel_rfl) ?_
            refine Wk.rEnd 2 rfl ?_
            refine Wk.nxt ?_
            refine wp_ret ?_
            have kk54 := Wk.Chg.step kk53 ch22 trivial
            refine Wk.ret (.bool true) rfl (by kernel_rfl) ?_
            exact ⟨rfl, Wk.Chg.below0 kk54⟩
        · rw [decide_eq_false (hls12 : ¬ Go.Lib.compareBytes (Mur.rawL k1 r1 n1 t1) (Mur.rawL k3 r3 n3 t3) < 0)]
          rintro _ W21 ⟨rfl, ch21⟩
          have zz33 := ch21.size
          have sS24 := Wk.Chg.step sS22 ch21 trivial
          refine ⟨_, rfl, sS24, ?_⟩
          refine Wk.dVal 12 (some 7) (.bool false) rfl rfl (by kernel_rfl) (by kernel_rfl) (by kernel_rfl) (fun _ _ _ h => h) (by kernel_rfl) (fun w' hw' => by kernel_rfl) sS24 ?_
          refine Wk.dVal 13 (some 8) (.bool true) rfl rfl (by kernel_rfl) (by kernel_rfl) (by kernel_rfl) (fun _ _ _ h => h) (by kernel_rfl) (fun w' hw' => by kernel_rfl) sS24 ?_
          refine Wk.dVal 14 (some 9) (.bool false) rfl rfl (by kernel_rfl) (by kernel_rfl) (by kernel_rfl) (fun _ _ _ h => h) (by kernel_rfl) (fun w' hw' => by kernel_rfl) sS24 ?_
          refine Wk.dVal 15 (some 10) (.bool false) rfl rfl (by kernel_rfl) (by kernel_rfl) (by kernel_rfl) (fun _ _ _ h => h) (by kernel_rfl) (fun w' hw' => by kernel_rfl) sS24 ?_
          refine Wk.dEnd (by kernel_rfl) ?_
          refine Wk.nxt ?_
          refine wp_seq ?_
          refine wp_seq ?_
          refine Wk.reg ?_
          refine Wk.rPure 0 (some 23) (.agg ((Mur.attC k1 r1 n1 t1).toArray)) rfl rfl (by kernel_rfl) (Mur.loadArr 36 (.tmp 3) rfl _ Tryd.underlying36 rfl w.heap.size (by kernel_rfl) (Mur.attC k1 r1 n1 t1).toArray 97 (Mur.attC_size hk1 hr1 ht1) (by kernel_rfl) 36 (0, 0) (Wk.Chg.hp ch21 (Wk.Chg.hp ch17 (Wk.Chg.hp ch16 (Wk.Chg.hp ch5 (Wk.Chg.hp ch4 (Wk.Chg.hp ch3 (Wk.Chg.hp ch2 hb1 trivial) trivial) trivial) trivial) trivial) trivial) trivial)) ?_
          refine Wk.rPure 1 (some 24) (.agg ((Mur.attC k2 r2 n2 t2).toArray)) rfl rfl (by kernel_rfl) (Mur.loadArr 36 (.tmp 4) rfl _ Tryd.underlying36 rfl W1.heap.size (by kernel_rfl) (Mur.attC k2 r2 n2 t2).toArray 97 (Mur.attC_size hk2 hr2 ht2) (by kernel_rfl) 36 (0, 0) (Wk.Chg.hp ch21 (Wk.Chg.hp ch17 (Wk.Chg.hp ch16 (Wk.Chg.hp ch5 (Wk.Chg.hp ch4 (Wk.Chg.hp ch3 hb2 trivial) trivial) trivial) trivial) trivial) trivial)) ?_
          by_cases hatt12 : k1 = k2 ∧ r1 = r2 ∧ n1 = n2 ∧ t1 = t2
          · refine Wk.rPure 2 (some 25) (.bool true) rfl rfl (by kernel_rfl) (Wk.boolT (b := decide (k1 = k2 ∧ r1 = r2 ∧ n1 = n2 ∧ t1 = t2)) (decide_eq_true (hatt12)) (run_eql_att (.tmp 23) (.tmp 24) 36 rfl hk1 hr1 ht1 hk2 hr2 ht2 hwn1 hwn2 (by kernel_rfl) (by kernel_rfl))) ?_
            refine Wk.rPure 3 (some 26) (.bool false) rfl rfl (by kernel_rfl) (by kernel_rfl) ?_
            refine Wk.rPure 4 (some 27) (.bool true) rfl rfl (by kernel_rfl) (by kernel_rfl) ?_
            refine Wk.rPure 5 (some 28) (.bool true) rfl rfl (by kernel_rfl) (by kernel_rfl) ?_
            refine Wk.rPure 6 (some 29) (.bool true) rfl rfl (by kernel_rfl) (by kernel_rfl) ?_
            refine Wk.rPure 7 (some 30) (.bool false) rfl rfl (by kernel_rfl) (by kernel_rfl) ?_
            refine Wk.rPure 8 (some 31) (.bool false) rfl rfl (by kernel_rfl) (by kernel_rfl) ?_
            refine Wk.rPure 9 (some 32) (.bool true) rfl rfl (by kernel_rfl) (by kernel_rfl) ?_
            refine Wk.rPure 10 (some 33) (.bool true) rfl rfl (by kernel_rfl) (by kernel_rfl) ?_
            refine Wk.rPass 11 (some 34) rfl rfl (by kernel_rfl) ?_
            refine Wk.rPass 12 (some 35) rfl rfl (by kernel_rfl) ?_
            refine Wk.rPass 13 (some 36) rfl rfl (by kernel_rfl) ?_
            refine Wk.rPass 14 (some 37) rfl rfl (by kernel_rfl) ?_
            refine Wk.rPure 15 (some 38) (.bool true) rfl rfl (by kernel_rfl) (by kernel_rfl) ?_
            refine Wk.rPure 16 (some 39) (.bool true) rfl rfl (by kernel_rfl) (by kernel_rfl) ?_
            refine Wk.rPass 17 (some 40) rfl rfl (by kernel_rfl) ?_
            refine Wk.rPass 18 (some 41) rfl rfl (by kernel_rfl) ?_
            refine Wk.rPass 19 (some 42) rfl rfl (by kernel_rfl) ?_
            refine Wk.rPass 20 (some 43) rfl rfl (by kernel_rfl) ?_
            refine Wk.rPass 21 (some 44) rfl rfl (by kernel_rfl) ?_
            refine Wk.rPass 22 (some 45) rfl rfl (by kernel_rfl) ?_
            refine Wk.rPass 23 (some 46) rfl rfl (by kernel_rfl) ?_
            refine Wk.rPass 24 (some 47) rfl rfl (by kernel_rfl) ?_
            refine Wk.rPure 25 (some 48) (.bool true) rfl rfl (by kernel_rfl) (by kernel_rfl) ?_
            refine Wk.rEnd 26 rfl ?_
            refine Wk.nxt ?_
            refine wp_cond_true (by kernel_rfl) ?_
            refine wp_seq ?_
            refine Wk.reg ?_
            refine Wk.rPure 0 (some 6) (.bool false) rfl rfl (by kernel_rfl) (by kernel_rfl) ?_
            refine Wk.rEnd 1 rfl ?_
            refine Wk.nxt ?_
            refine wp_ret ?_
            refine Wk.thR ?_
            exfalso
            have o1 := Mur.cmp_flip (Mur.rawL k1 r1 n1 t1) (Mur.rawL k2 r2 n2 t2)
            have o2 := Mur.cmp_zero (Mur.rawL k1 r1 n1 t1) (Mur.rawL k2 r2 n2 t2)
            have o3 := Mur.cmp_trans (Mur.rawL k1 r1 n1 t1) (Mur.rawL k2 r2 n2 t2) (Mur.rawL k3 r3 n3 t3)
            have o4 := Mur.rawL_inj (t := t1) (t' := t2) hk1 hr1 hk2 hr2 hwn1 hwn2
            have o5 := Mur.cmp_self (Mur.rawL k1 r1 n1 t1)
            have o6 := o4.2 hatt12
            have o7 : Go.Lib.compareBytes (Mur.rawL k1 r1 n1 t1) (Mur.rawL k2 r2 n2 t2) = 0 := by rw [← o6]; exact o5
            omega
          · refine Wk.rPure 2 (some 25) (.bool false) rfl rfl (by kernel_rfl) (Wk.boolF (b := decide (k1 = k2 ∧ r1 = r2 ∧ n1 = n2 ∧ t1 = t2)) (decide_eq_false (hatt12)) (run_eql_att (.tmp 23) (.tmp 24) 36 rfl hk1 hr1 ht1 hk2 hr2 ht2 hwn1 hwn2 (by kernel_rfl) (by kernel_rfl))) ?_
            refine Wk.rPure 3 (some 26) (.bool false) rfl rfl (by kernel_rfl) (by kernel_rfl) ?_
            refine Wk.rPure 4 (some 27) (.bool true) rfl rfl (by kernel_rfl) (by kernel_rfl) ?_
            refine Wk.rPure 5 (some 28) (.bool true) rfl rfl (by kernel_rfl) (by kernel_rfl) ?_
            refine Wk.rPure 6 (some 29) (.bool true) rfl rfl (by kernel_rfl) (by kernel_rfl) ?_
            refine Wk.rPure 7 (some 30) (.bool false) rfl rfl (by kernel_rfl) (by kernel_rfl) ?_
            refine Wk.rPure 8 (some 31) (.bool false) rfl rfl (by kernel_rfl) (by kernel_rfl) ?_
            refine Wk.rPure 9 (some 32) (.bool false) rfl rfl (by kernel_rfl) (by kernel_rfl) ?_
            refine Wk.rPure 10 (some 33) (.bool false) rfl rfl (by kernel_rfl) (by kernel_rfl) ?_
            refine Wk.rPure 11 (some 34) (.bool false) rfl rfl (by kernel_rfl) (by kernel_rfl) ?_
            refine Wk.rPure 12 (some 35) (.bool false) rfl rfl (by kernel_rfl) (by kernel_rfl) ?_
            refine Wk.rPass 13 (some 36) rfl rfl (by kernel_rfl) ?_
            refine Wk.rPure 14 (some 37) (.bool false) rfl rfl (by kernel_rfl) (by kernel_rfl) ?_
            refine Wk.rPure 15 (some 38) (.bool false) rfl rfl (by kernel_rfl) (by kernel_rfl) ?_
            refine Wk.rPure 16 (some 39) (.bool false) rfl rfl (by kernel_rfl) (by kernel_rfl) ?_
            refine Wk.rPure 17 (some 40) (.bool false) rfl rfl (by kernel_rfl) (by kernel_rfl) ?_
            refine Wk.rPure 18 (some 41) (.bool false) rfl rfl (by kernel_rfl) (by kernel_rfl) ?_
            refine Wk.rPass 19 (some 42) rfl rfl (by kernel_rfl) ?_
            refine Wk.rPure 20 (some 43) (.bool false) rfl rfl (by kernel_rfl) (by kernel_rfl) ?_
            refine Wk.rPure 21 (some 44) (.bool false) rfl rfl (by kernel_rfl) (by kernel_rfl) ?_
            refine Wk.rPass 22 (some 45) rfl rfl (by kernel_rfl) ?_
            refine Wk.rPass 23 (some 46) rfl rfl (by kernel_rfl) ?_
            refine Wk.rPure 24 (some 47) (.bool false) rfl rfl (by kernel_rfl) (by kernel_rfl) ?_
            refine Wk.rPure 25 (some 48) (.bool false) rfl rfl (by kernel_rfl) (by kernel_rfl) ?_
            refine Wk.rEnd 26 rfl ?_
            refine Wk.nxt ?_
            refine wp_cond_false (by kernel_rfl) ?_
            refine wp_skip ?_
            refine Wk.nxt ?_
            refine wp_seq ?_
            refine Wk.reg ?_
            refine Wk.rCall 0 (some 49) 17 [] #[] [] rfl rfl (by kernel_rfl) rfl (by kernel_rfl) (by kernel_rfl) ?_
            have kk55 : Wk.Chg [] w W1 := Wk.Chg.step ((Wk.Chg.refl _).more (by simp)) ch1 trivial
            have kk56 := Wk.Chg.step kk55 ch2 trivial
            have kk57 := Wk.Chg.step kk56 ch3 trivial
            have kk58 := Wk.Chg.step kk57 ch4 trivial
            have kk59 := Wk.Chg.step kk58 ch5 trivial
            have kk60 := Wk.Chg.step kk59 ch16 trivial
            have kk61 := Wk.Chg.step kk60 ch17 trivial
            have kk62 := Wk.Chg.step kk61 ch21 trivial
            refine (known9_any W21 (HV.out.below (Wk.Chg.below0 kk62))).mono ?_
            rintro _ W23 ⟨rfl, ch23⟩
            have zz34 := ch23.size
            refine ⟨_, rfl, ?_⟩
            refine Wk.rPure 1 (some 6) (.bool true) rfl rfl (by kernel_rfl) (by kernel_rfl) ?_
            refine Wk.rEnd 2 rfl ?_
            refine Wk.nxt ?_
            refine wp_ret ?_
            have kk63 := Wk.Chg.step kk62 ch23 trivial
            refine Wk.ret (.bool true) rfl (by kernel_rfl) ?_
            exact ⟨rfl, Wk.Chg.below0 kk63⟩
    · rw [decide_eq_false (hls9 : ¬ Go.Lib.compareBytes (Mur.rawL k2 r2 n2 t2) (Mur.rawL k1 r1 n1 t1) < 0)]
      rintro _ W16 ⟨rfl, ch16⟩
      have zz35 := ch16.size
      have sS25 := Wk.Chg.step sS17 ch16 trivial
      refine ⟨_, rfl, sS25, ?_⟩
      refine Wk.dOp 8 (by kernel_rfl) ?_
      refine Wk.oCall (some 19) 23 [.tmp 17, .tmp 18] #[36, 36] [.agg ((Mur.attC k2 r2 n2 t2).toArray), .agg ((Mur.attC k3 r3 n3 t3).toArray)] rfl rfl (by kernel_rfl) rfl (by kernel_rfl) (by kernel_rfl) ?_
      refine (Less_any k2 r2 t2 n2 hk2 hr2 ht2 k3 r3 t3 n3 hk3 hr3 ht3 W16).mono ?_
      by_cases hls13 : Go.Lib.compareBytes (Mur.rawL k2 r2 n2 t2) (Mur.rawL k3 r3 n3 t3) < 0
      · rw [decide_eq_true (hls13 : Go.Lib.compareBytes (Mur.rawL k2 r2 n2 t2) (Mur.rawL k3 r3 n3 t3) < 0)]
        rintro _ W24 ⟨rfl, ch24⟩
        have zz36 := ch24.size
        have sS26 := Wk.Chg.step sS25 ch24 trivial
        refine ⟨_, rfl, sS26, ?_⟩
        refine Wk.dOp 11 (by kernel_rfl) ?_
        refine Wk.oCall (some 22) 23 [.tmp 20, .tmp 21] #[36, 36] [.agg ((Mur.attC k1 r1 n1 t1).toArray), .agg ((Mur.attC k3 r3 n3 t3).toArray)] rfl rfl (by kernel_rfl) rfl (by kernel_rfl) (by kernel_rfl) ?_
        refine (Less_any k1 r1 t1 n1 hk1 hr1 ht1 k3 r3 t3 n3 hk3 hr3 ht3 W24).mono ?_
        by_cases hls14 : Go.Lib.compareBytes (Mur.rawL k1 r1 n1 t1) (Mur.rawL k3 r3 n3 t3) < 0
        · rw [decide_eq_true (hls14 : Go.Lib.compareBytes (Mur.rawL k1 r1 n1 t1) (Mur.rawL k3 r3 n3 t3) < 0)]
          rintro _ W25 ⟨rfl, ch25⟩
          have zz37 := ch25.size
          have sS27 := Wk.Chg.step sS26 ch25 trivial
          refine ⟨_, rfl, sS27, ?_⟩
          refine Wk.dVal 12 (some 7) (.bool false) rfl rfl (by kernel_rfl) (by kernel_rfl) (by kernel_rfl) (fun _ _ _ h => h) (by kernel_rfl) (fun w' hw' => by kernel_rfl) sS27 ?_
          refine Wk.dVal 13 (some 8) (.bool false) rfl rfl (by kernel_rfl) (by kernel_rfl) (by kernel_rfl) (fun _ _ _ h => h) (by kernel_rfl) (fun w' hw' => by kernel_rfl) sS27 ?_
          refine Wk.dVal 14 (some 9) (.bool true) rfl rfl (by kernel_rfl) (by kernel_rfl) (by kernel_rfl) (fun _ _ _ h => h) (by kernel_rfl) (fun w' hw' => by kernel_rfl) sS27 ?_
          refine Wk.dVal 15 (some 10) (.bool true) rfl rfl (by kernel_rfl) (by kernel_rfl) (by kernel_rfl) (fun _ _ _ h => h) (by kernel_rfl) (fun w' hw' => by kernel_rfl) sS27 ?_
          refine Wk.dEnd (by kernel_rfl) ?_
          refine Wk.nxt ?_
          refine wp_seq ?_
          refine wp_seq ?_
          refine Wk.reg ?_
          refine Wk.rPure 0 (some 23) (.agg ((Mur.attC k1 r1 n1 t1).toArray)) rfl rfl (by kernel_rfl) (Mur.loadArr 36 (.tmp 3) rfl _ Tryd.underlying36 rfl w.heap.size (by kernel_rfl) (Mur.attC k1 r1 n1 t1).toArray 97 (Mur.attC_size hk1 hr1 ht1) (by kernel_rfl) 36 (0, 0) (Wk.Chg.hp ch25 (Wk.Chg.hp ch24 (Wk.Chg.hp ch16 (Wk.Chg.hp ch5 (Wk.Chg.hp ch4 (Wk.Chg.hp ch3 (Wk.Chg.hp ch2 hb1 trivial) trivial) trivial) trivial) trivial) trivial) trivial)) ?_
          refine Wk.rPure 1 (some 24) (.agg ((Mur.attC k2 r2 n2 t2).toArray)) rfl rfl (by kernel_rfl) (Mur.loadArr 36 (.tmp 4) rfl _ Tryd.underlying36 rfl W1.heap.size (by kernel_rfl) (Mur.attC k2 r2 n2 t2).toArray 97 (Mur.attC_size hk2 hr2 ht2) (by kernel_rfl) 36 (0, 0) (Wk.Chg.hp ch25 (Wk.Chg.hp ch24 (Wk.Chg.hp ch16 (Wk.Chg.hp ch5 (Wk.Chg.hp ch4 (Wk.Chg.hp ch3 hb2 trivial) trivial) trivial) trivial) trivial) trivial)) ?_
          by_cases hatt13 : k1 = k2 ∧ r1 = r2 ∧ n1 = n2 ∧ t1 = t2
          · refine Wk.rPure 2 (some 25) (.bool true) rfl rfl (by kernel_rfl) (Wk.boolT (b := decide (k1 = k2 ∧ r1 = r2 ∧ n1 = n2 ∧ t1 = t2)) (decide_eq_true (hatt13)) (run_eql_att (.tmp 23) (.tmp 24) 36 rfl hk1 hr1 ht1 hk2 hr2 ht2 hwn1 hwn2 (by kernel_rfl) (by kernel_rfl))) ?_
            refine Wk.rPure 3 (some 26) (.bool false) rfl rfl (by kernel_rfl) (by kernel_rfl) ?_
            refine Wk.rPure 4 (some 27) (.bool true) rfl rfl (by kernel_rfl) (by kernel_rfl) ?_
            refine Wk.rPure 5 (some 28) (.bool true) rfl rfl (by kernel_rfl) (by kernel_rfl) ?_
            refine Wk.rPure 6 (some 29) (.bool false) rfl rfl (by kernel_rfl) (by kernel_rfl) ?_
            refine Wk.rPure 7 (some 30) (.bool true) rfl rfl (by kernel_rfl) (by kernel_rfl) ?_
            refine Wk.rPure 8 (some 31) (.bool true) rfl rfl (by kernel_rfl) (by kernel_rfl) ?_
            refine Wk.rPure 9 (some 32) (.bool false) rfl rfl (by kernel_rfl) (by kernel_rfl) ?_
            refine Wk.rPure 10 (some 33) (.bool false) rfl rfl (by kernel_rfl) (by kernel_rfl) ?_
            refine Wk.rPure 11 (some 34) (.bool false) rfl rfl (by kernel_rfl) (by kernel_rfl) ?_
            refine Wk.rPure 12 (some 35) (.bool false) rfl rfl (by kernel_rfl) (by kernel_rfl) ?_
            refine Wk.rPass 13 (some 36) rfl rfl (by kernel_rfl) ?_
            refine Wk.rPure 14 (some 37) (.bool false) rfl rfl (by kernel_rfl) (by kernel_rfl) ?_
            refine Wk.rPure 15 (some 38) (.bool false) rfl rfl (by kernel_rfl) (by kernel_rfl) ?_
            refine Wk.rPure 16 (some 39) (.bool false) rfl rfl (by kernel_rfl) (by kernel_rfl) ?_
            refine Wk.rPure 17 (some 40) (.bool false) rfl rfl (by kernel_rfl) (by kernel_rfl) ?_
            refine Wk.rPure 18 (some 41) (.bool false) rfl rfl (by kernel_rfl) (by kernel_rfl) ?_
            refine Wk.rPass 19 (some 42) rfl rfl (by kernel_rfl) ?_
            refine Wk.rPure 20 (some 43) (.bool false) rfl rfl (by kernel_rfl) (by kernel_rfl) ?_
            refine Wk.rPure 21 (some 44) (.bool false) rfl rfl (by kernel_rfl) (by kernel_rfl) ?_
            refine Wk.rPass 22 (some 45) rfl rfl (by kernel_rfl) ?_
            refine Wk.rPass 23 (some 46) rfl rfl (by kernel_rfl) ?_
            refine Wk.rPure 24 (some 47) (.bool false) rfl rfl (by kernel_rfl) (by kernel_rfl) ?_
            refine Wk.rPure 25 (some 48) (.bool false) rfl rfl (by kernel_rfl) (by kernel_rfl) ?_
            refine Wk.rEnd 26 rfl ?_
            refine Wk.nxt ?_
            refine wp_cond_false (by kernel_rfl) ?_
            refine wp_skip ?_
            refine Wk.nxt ?_
            refine wp_seq ?_
            refine Wk.reg ?_
            refine Wk.rCall 0 (some 49) 17 [] #[] [] rfl rfl (by kernel_rfl) rfl (by kernel_rfl) (by kernel_rfl) ?_
            have kk64 : Wk.Chg [] w W1 := Wk.Chg.step ((Wk.Chg.refl _).more (by simp)) ch1 trivial
            have kk65 := Wk.Chg.step kk64 ch2 trivial
            have kk66 := Wk.Chg.step kk65 ch3 trivial
            have kk67 := Wk.Chg.step kk66 ch4 trivial
            have kk68 := Wk.Chg.step kk67 ch5 trivial
            have kk69 := Wk.Chg.step kk68 ch16 trivial
            have kk70 := Wk.Chg.step kk69 ch24 trivial
            have kk71 := Wk.Chg.step kk70 ch25 trivial
            refine (known9_any W25 (HV.out.below (Wk.Chg.below0 kk71))).mono ?_
            rintro _ W26 ⟨rfl, ch26⟩
            have zz38 := ch26.size
            refine ⟨_, rfl, ?_⟩
            refine Wk.rPure 1 (some 6) (.bool true) rfl rfl (by kernel_rfl) (by kernel_rfl) ?_
            refine Wk.rEnd 2 rfl ?_
            refine Wk.nxt ?_
            refine wp_ret ?_
            have kk72 := Wk.Chg.step kk71 ch26 trivial
            refine Wk.ret (.bool true) rfl (by kernel_rfl) ?_
            exact ⟨rfl, Wk.Chg.below0 kk72⟩
          · refine Wk.rPure 2 (some 25) (.bool false) rfl rfl (by kernel_rfl) (Wk.boolF (b := decide (k1 = k2 ∧ r1 = r2 ∧ n1 = n2 ∧ t1 = t2)) (decide_eq_false (hatt13)) (run_eql_att (.tmp 23) (.tmp 24) 36 rfl hk1 hr1 ht1 hk2 hr2 ht2 hwn1 hwn2 (by kernel_rfl) (by kernel_rfl))) ?_
            refine Wk.rPure 3 (some 26) (.bool false) rfl rfl (by kernel_rfl) (by kernel_rfl) ?_
            refine Wk.rPure 4 (some 27) (.bool true) rfl rfl (by kernel_rfl) (by kernel_rfl) ?_
            refine Wk.rPure 5 (some 28) (.bool true) rfl rfl (by kernel_rfl) (by kernel_rfl) ?_
            refine Wk.rPure 6 (some 29) (.bool false) rfl rfl (by kernel_rfl) (by kernel_rfl) ?_
            refine Wk.rPure 7 (some 30) (.bool true) rfl rfl (by kernel_rfl) (by kernel_rfl) ?_
            refine Wk.rPure 8 (some 31) (.bool true) rfl rfl (by kernel_rfl) (by kernel_rfl) ?_
            refine Wk.rPure 9 (some 32) (.bool true) rfl rfl (by kernel_rfl) (by kernel_rfl) ?_
            refine Wk.rPure 10 (some 33) (.bool true) rfl rfl (by kernel_rfl) (by kernel_rfl) ?_
            refine Wk.rPass 11 (some 34) rfl rfl (by kernel_rfl) ?_
            refine Wk.rPass 12 (some 35) rfl rfl (by kernel_rfl) ?_
            refine Wk.rPass 13 (some 36) rfl rfl (by kernel_rfl) ?_
            refine Wk.rPass 14 (some 37) rfl rfl (by kernel_rfl) ?_
            refine Wk.rPure 15 (some 38) (.bool true) rfl rfl (by kernel_rfl) (by kernel_rfl) ?_
            refine Wk.rPure 16 (some 39) (.bool true) rfl rfl (by kernel_rfl) (by kernel_rfl) ?_
            refine Wk.rPass 17 (some 40) rfl rfl (by kernel_rfl) ?_
            refine Wk.rPass 18 (some 41) rfl rfl (by kernel_rfl) ?_
            refine Wk.rPass 19 (some 42) rfl rfl (by kernel_rfl) ?_
            refine Wk.rPass 20 (some 43) rfl rfl (by kernel_rfl) ?_
            refine Wk.rPass 21 (some 44) rfl rfl (by kernel_rfl) ?_
            refine Wk.rPass 22 (some 45) rfl rfl (by kernel_rfl) ?_
            refine Wk.rPass 23 (some 46) rfl rfl (by kernel_rfl) ?_
            refine Wk.rPass 24 (some 47) rfl rfl (by kernel_rfl) ?_
            refine Wk.rPure 25 (some 48) (.bool true) rfl rfl (by kernel_rfl) (by kernel_rfl) ?_
            refine Wk.rEnd 26 rfl ?_
            refine Wk.nxt ?_
            refine wp_cond_true (by kernel_rfl) ?_
            refine wp_seq ?_
            refine Wk.reg ?_
            refine Wk.rPure 0 (some 6) (.bool false) rfl rfl (by kernel_rfl) (by kernel_rfl) ?_
            refine Wk.rEnd 1 rfl ?_
            refine Wk.nxt ?_
            refine wp_ret ?_
            refine Wk.thR ?_
            exfalso
            have o1 := Mur.cmp_flip (Mur.rawL k1 r1 n1 t1) (Mur.rawL k2 r2 n2 t2)
            have o2 := Mur.cmp_zero (Mur.rawL k1 r1 n1 t1) (Mur.rawL k2 r2 n2 t2)
            have o3 := Mur.cmp_trans (Mur.rawL k1 r1 n1 t1) (Mur.rawL k2 r2 n2 t2) (Mur.rawL k3 r3 n3 t3)
            have o4 := Mur.rawL_inj (t := t1) (t' := t2) hk1 hr1 hk2 hr2 hwn1 hwn2
            have o5 := Mur.cmp_self (Mur.rawL k1 r1 n1 t1)
            have o6 : ¬ Go.Lib.compareBytes (Mur.rawL k1 r1 n1 t1) (Mur.rawL k2 r2 n2 t2) = 0 := fun z => hatt13 (o4.1 (o2 z))
            first | omega | exact absurd (o3 (by omega) (by omega)) (by omega)
        · rw [decide_eq_false (hls14 : ¬ Go.Lib.compareBytes (Mur.rawL k1 r1 n1 t1) (Mur.rawL k3 r3 n3 t3) < 0)]
          rintro _ W25 ⟨rfl, ch25⟩
          have zz39 := ch25.size
          have sS28 := Wk.Chg.step sS26 ch25 trivial
          refine ⟨_, rfl, sS28, ?_⟩
          refine Wk.dVal 12 (some 7) (.bool false) rfl rfl (by kernel_rfl) (by kernel_rfl) (by kernel_rfl) (fun _ _ _ h => h) (by kernel_rfl) (fun w' hw' => by kernel_rfl) sS28 ?_
          refine Wk.dVal 13 (some 8) (.bool false) rfl rfl (by kernel_rfl) (by kernel_rfl) (by kernel_rfl) (fun _ _ _ h => h) (by kernel_rfl) (fun w' hw' => by kernel_rfl) sS28 ?_
          refine Wk.dVal 14 (some 9) (.bool true) rfl rfl (by kernel_rfl) (by kernel_rfl) (by kernel_rfl) (fun _ _ _ h => h) (by kernel_rfl) (fun w' hw' => by kernel_rfl) sS28 ?_
          refine Wk.dVal 15 (some 10) (.bool false) rfl rfl (by kernel_rfl) (by kernel_rfl) (by kernel_rfl) (fun _ _ _ h => h) (by kernel_rfl) (fun w' hw' => by kernel_rfl) sS28 ?_
          refine Wk.dEnd (by kernel_rfl) ?_
          refine Wk.nxt ?_
          refine wp_seq ?_
          refine wp_seq ?_
          refine Wk.reg ?_
          refine Wk.rPure 0 (some 23) (.agg ((Mur.attC k1 r1 n1 t1).toArray)) rfl rfl (by kernel_rfl) (Mur.loadArr 36 (.tmp 3) rfl _ Tryd.underlying36 rfl w.heap.size (by kernel_rfl) (Mur.attC k1 r1 n1 t1).toArray 97 (Mur.attC_size hk1 hr1 ht1) (by kernel_rfl) 36 (0, 0) (Wk.Chg.hp ch25 (Wk.Chg.hp ch24 (Wk.Chg.hp ch16 (Wk.Chg.hp ch5 (Wk.Chg.hp ch4 (Wk.Chg.hp ch3 (Wk.Chg.hp ch2 hb1 trivial) trivial) trivial) trivial) trivial) trivial) trivial)) ?_
          refine Wk.rPure 1 (some 24) (.agg ((Mur.attC k2 r2 n2 t2).toArray)) rfl rfl (by kernel_rfl) (Mur.loadArr 36 (.tmp 4) rfl _ Tryd.underlying36 rfl W1.heap.size (by kernel_rfl) (Mur.attC k2 r2 n2 t2).toArray 97 (Mur.attC_size hk2 hr2 ht2) (by kernel_rfl) 36 (0, 0) (Wk.Chg.hp ch25 (Wk.Chg.hp ch24 (Wk.Chg.hp ch16 (Wk.Chg.hp ch5 (Wk.Chg.hp ch4 (Wk.Chg.hp ch3 hb2 trivial) trivial) trivial) trivial) trivial) trivial)) ?_
          by_cases hatt14 : k1 = k2 ∧ r1 = r2 ∧ n1 = n2 ∧ t1 = t2
          · refine Wk.rPure 2 (some 25) (.bool true) rfl rfl (by kernel_rfl) (Wk.boolT (b := decide (k1 = k2 ∧ r1 = r2 ∧ n1 = n2 ∧ t1 = t2)) (decide_eq_true (hatt14)) (run_eql_att (.tmp 23) (.tmp 24) 36 rfl hk1 hr1 ht1 hk2 hr2 ht2 hwn1 hwn2 (by kernel_rfl) (by kernel_rfl))) ?_
            refine Wk.rPure 3 (some 26) (.bool false) rfl rfl (by kernel_rfl) (by kernel_rfl) ?_
            refine Wk.rPure 4 (some 27) (.bool true) rfl rfl (by kernel_rfl) (by kernel_rfl) ?_
            refine Wk.rPure 5 (some 28) (.bool true) rfl rfl (by kernel_rfl) (by kernel_rfl) ?_
            refine Wk.rPure 6 (some 29) (.bool false) rfl rfl (by kernel_rfl) (by kernel_rfl) ?_
            refine Wk.rPure 7 (some 30) (.bool true) rfl rfl (by kernel_rfl) (by kernel_rfl) ?_
            refine Wk.rPure 8 (some 31) (.bool true) rfl rfl (by kernel_rfl) (by kernel_rfl) ?_
            refine Wk.rPure 9 (some 32) (.bool false) rfl rfl (by kernel_rfl) (by kernel_rfl) ?_
            refine Wk.rPure 10 (some 33) (.bool false) rfl rfl (by kernel_rfl) (by kernel_rfl) ?_
            refine Wk.rPure 11 (some 34) (.bool false) rfl rfl (by kernel_rfl) (by kernel_rfl) ?_
            refine Wk.rPure 12 (some 35) (.bool false) rfl rfl (by kernel_rfl) (by kernel_rfl) ?_
            refine Wk.rPass 13 (some 36) rfl rfl (by kernel_rfl) ?_
            refine Wk.rPure 14 (some 37) (.bool false) rfl rfl (by kernel_rfl) (by kernel_rfl) ?_
            refine Wk.rPure 15 (some 38) (.bool false) rfl rfl (by kernel_rfl) (by kernel_rfl) ?_
            refine Wk.rPure 16 (some 39) (.bool false) rfl rfl (by kernel_rfl) (by kernel_rfl) ?_
            refine Wk.rPure 17 (some 40) (.bool false) rfl rfl (by kernel_rfl) (by kernel_rfl) ?_
            refine Wk.rPure 18 (some 41) (.bool false) rfl rfl (by kernel_rfl) (by kernel_rfl) ?_
            refine Wk.rPass 19 (some 42) rfl rfl (by kernel_rfl) ?_
            refine Wk.rPure 20 (some 43) (.bool false) rfl rfl (by kernel_rfl) (by kernel_rfl) ?_
            refine Wk.rPure 21 (some 44) (.bool false) rfl rfl (by kernel_rfl) (by kernel_rfl) ?_
            refine Wk.rPass 22 (some 45) rfl rfl (by kernel_rfl) ?_
            refine Wk.rPass 23 (some 46) rfl rfl (by kernel_rfl) ?_
            refine Wk.rPure 24 (some 47) (.bool false) rfl rfl (by kernel_rfl) (by kernel_rfl) ?_
            refine Wk.rPure 25 (some 48) (.bool false) rfl rfl (by kernel_rfl) (by kernel_rfl) ?_
            refine Wk.rEnd 26 rfl ?_
            refine Wk.nxt ?_
            refine wp_cond_false (by kernel_rfl) ?_
            refine wp_skip ?_
            refine Wk.nxt ?_
            refine wp_seq ?_
            refine Wk.reg ?_
            refine Wk.rCall 0 (some 49) 17 [] #[] [] rfl rfl (by kernel_rfl) rfl (by kernel_rfl) (by kernel_rfl) ?_
            have kk73 : Wk.Chg [] w W1 := Wk.Chg.step ((Wk.Chg.refl _).more (by simp)) ch1 trivial
            have kk74 := Wk.Chg.step kk73 ch2 trivial
            have kk75 := Wk.Chg.step kk74 ch3 trivial
            have kk76 := Wk.Chg.step kk75 ch4 trivial
            have kk77 := Wk.Chg.step kk76 ch5 trivial
            have kk78 := Wk.Chg.step kk77 ch16 trivial
            have kk79 := Wk.Chg.step kk78 ch24 trivial
            have kk80 := Wk.Chg.step kk79 ch25 trivial
            refine (known9_any W25 (HV.out.below (Wk.Chg.below0 kk80))).mono ?_
            rintro _ W27 ⟨rfl, ch27⟩
            have zz40 := ch27.size
            refine ⟨_, rfl, ?_⟩
            refine Wk.rPure 1 (some 6) (.bool true) rfl rfl (by kernel_rfl) (by kernel_rfl) ?_
            refine Wk.rEnd 2 rfl ?_
            refine Wk.nxt ?_
            refine wp_ret ?_
            have kk81 := Wk.Chg.step kk80 ch27 trivial
            refine Wk.ret (.bool true) rfl (by kernel_rfl) ?_
            exact ⟨rfl, Wk.Chg.below0 kk81⟩
          · refine Wk.rPure 2 (some 25) (.bool false) rfl rfl (by kernel_rfl) (Wk.boolF (b := decide (k1 = k2 ∧ r1 = r2 ∧ n1 = n2 ∧ t1 = t2)) (decide_eq_false (hatt14)) (run_eql_att (.tmp 23) (.tmp 24) 36 rfl hk1 hr1 ht1 hk2 hr2 ht2 hwn1 hwn2 (by kernel_rfl) (by kernel_rfl))) ?_
            refine Wk.rPure 3 (some 26) (.bool false) rfl rfl (by kernel_rfl) (by kernel_rfl) ?_
            refine Wk.rPure 4 (some 27) (.bool true) rfl rfl (by kernel_rfl) (by kernel_rfl) ?_
            refine Wk.rPure 5 (some 28) (.bool true) rfl rfl (by kernel_rfl) (by kernel_rfl) ?_
            refine Wk.rPure 6 (some 29) (.bool false) rfl rfl (by kernel_rfl) (by kernel_rfl) ?_
            refine Wk.rPure 7 (some 30) (.bool true) rfl rfl (by kernel_rfl) (by kernel_rfl) ?_
            refine Wk.rPure 8 (some 31) (.bool true) rfl rfl (by kernel_rfl) (by kernel_rfl) ?_
            refine Wk.rPure 9 (some 32) (.bool true) rfl rfl (by kernel_rfl) (by kernel_rfl) ?_
            refine Wk.rPure 10 (some 33) (.bool true) rfl rfl (by kernel_rfl) (by kernel_rfl) ?_
            refine Wk.rPass 11 (some 34) rfl rfl (by kernel_rfl) ?_
            refine Wk.rPass 12 (some 35) rfl rfl (by kernel_rfl) ?_
            refine Wk.rPass 13 (some 36) rfl rfl (by kernel_rfl) ?_
            refine Wk.rPass 14 (some 37) rfl rfl (by kernel_rfl) ?_
            refine Wk.rPure 15 (some 38) (.bool true) rfl rfl (by kernel_rfl) (by kernel_rfl) ?_
            refine Wk.rPure 16 (some 39) (.bool true) rfl rfl (by kernel_rfl) (by kernel_rfl) ?_
            refine Wk.rPass 17 (some 40) rfl rfl (by kernel_rfl) ?_
            refine Wk.rPass 18 (some 41) rfl rfl (by kernel_rfl) ?_
            refine Wk.rPass 19 (some 42) rfl rfl (by kernel_rfl) ?_
            refine Wk.rPass 20 (some 43) rfl rfl (by kernel_rfl) ?_
            refine Wk.rPass 21 (some 44) rfl rfl (by kernel_rfl) ?_
            refine Wk.rPass 22 (some 45) rfl rfl (by kernel_rfl) ?_
            refine Wk.rPass 23 (some 46) rfl rfl (by kernel_rfl) ?_
            refine Wk.rPass 24 (some 47) rfl rfl (by kernel_rfl) ?_
            refine Wk.rPure 25 (some 48) (.bool true) rfl rfl (by kernel_rfl) (by kernel_rfl) ?_
            refine Wk.rEnd 26 rfl ?_
            refine Wk.nxt ?_
            refine wp_cond_true (by kernel_rfl) ?_
            refine wp_seq ?_
            refine Wk.reg ?_
            refine Wk.rPure 0 (some 6) (.bool false) rfl rfl (by kernel_rfl) (by kernel_rfl) ?_
            refine Wk.rEnd 1 rfl ?_
            refine Wk.nxt ?_
            refine wp_ret ?_
            refine Wk.thR ?_
            exfalso
            have o1 := Mur.cmp_flip (Mur.rawL k1 r1 n1 t1) (Mur.rawL k2 r2 n2 t2)
            have o2 := Mur.cmp_zero (Mur.rawL k1 r1 n1 t1) (Mur.rawL k2 r2 n2 t2)
            have o3 := Mur.cmp_trans (Mur.rawL k1 r1 n1 t1) (Mur.rawL k2 r2 n2 t2) (Mur.rawL k3 r3 n3 t3)
            have o4 := Mur.rawL_inj (t := t1) (t' := t2) hk1 hr1 hk2 hr2 hwn1 hwn2
            have o5 := Mur.cmp_self (Mur.rawL k1 r1 n1 t1)
            have o6 : ¬ Go.Lib.compareBytes (Mur.rawL k1 r1 n1 t1) (Mur.rawL k2 r2 n2 t2) = 0 := fun z => hatt14 (o4.1 (o2 z))
            first | omega | exact absurd (o3 (by omega) (by omega)) (by omega)
      · rw [decide_eq_false (hls13 : ¬ Go.Lib.compareBytes (Mur.rawL k2 r2 n2 t2) (Mur.rawL k3 r3 n3 t3) < 0)]
        rintro _ W24 ⟨rfl, ch24⟩
        have zz41 := ch24.size
        have sS29 := Wk.Chg.step sS25 ch24 trivial
        refine ⟨_, rfl, sS29, ?_⟩
        refine Wk.dOp 11 (by kernel_rfl) ?_
        refine Wk.oCall (some 22) 23 [.tmp 20, .tmp 21] #[36, 36] [.agg ((Mur.attC k1 r1 n1 t1).toArray), .agg ((Mur.attC k3 r3 n3 t3).toArray)] rfl rfl (by kernel_rfl) rfl (by kernel_rfl) (by kernel_rfl) ?_
        refine (Less_any k1 r1 t1 n1 hk1 hr1 ht1 k3 r3 t3 n3 hk3 hr3 ht3 W24).mono ?_
        by_cases hls15 : Go.Lib.compareBytes (Mur.rawL k1 r1 n1 t1) (Mur.rawL k3 r3 n3 t3) < 0
        · rw [decide_eq_true (hls15 : Go.Lib.compareBytes (Mur.rawL k1 r1 n1 t1) (Mur.rawL k3 r3 n3 t3) < 0)]
          rintro _ W28 ⟨rfl, ch28⟩
          have zz42 := ch28.size
          have sS30 := Wk.Chg.step sS29 ch28 trivial
          refine ⟨_, rfl, sS30, ?_⟩
          refine Wk.dVal 12 (some 7) (.bool false) rfl rfl (by kernel_rfl) (by kernel_rfl) (by kernel_rfl) (fun _ _ _ h => h) (by kernel_rfl) (fun w' hw' => by kernel_rfl) sS30 ?_
          refine Wk.dVal 13 (some 8) (.bool false) rfl rfl (by kernel_rfl) (by kernel_rfl) (by kernel_rfl) (fun _ _ _ h => h) (by kernel_rfl) (fun w' hw' => by kernel_rfl) sS30 ?_
          refine Wk.dVal 14 (some 9) (.bool false) rfl rfl (by kernel_rfl) (by kernel_rfl) (by kernel_rfl) (fun _ _ _ h => h) (by kernel_rfl) (fun w' hw' => by kernel_rfl) sS30 ?_
          refine Wk.dVal 15 (some 10) (.bool true) rfl rfl (by kernel_rfl) (by kernel_rfl) (by kernel_rfl) (fun _ _ _ h => h) (by kernel_rfl) (fun w' hw' => by kernel_rfl) sS30 ?_
          refine Wk.dEnd (by kernel_rfl) ?_
          refine Wk.nxt ?_
          refine wp_seq ?_
          refine wp_seq ?_
          refine Wk.reg ?_
          refine Wk.rPure 0 (some 23) (.agg ((Mur.attC k1 r1 n1 t1).toArray)) rfl rfl (by kernel_rfl) (Mur.loadArr 36 (.tmp 3) rfl _ Tryd.underlying36 rfl w.heap.size (by kernel_rfl) (Mur.attC k1 r1 n1 t1).toArray 97 (Mur.attC_size hk1 hr1 ht1) (by kernel_rfl) 36 (0, 0) (Wk.Chg.hp ch28 (Wk.Chg.hp ch24 (Wk.Chg.hp ch16 (Wk.Chg.hp ch5 (Wk.Chg.hp ch4 (Wk.Chg.hp ch3 (Wk.Chg.hp ch2 hb1 trivial) trivial) trivial) trivial) trivial) trivial) trivial)) ?_
          refine Wk.rPure 1 (some 24) (.agg ((Mur.attC k2 r2 n2 t2).toArray)) rfl rfl (by kernel_rfl) (Mur.loadArr 36 (.tmp 4) rfl _ Tryd.underlying36 rfl W1.heap.size (by kernel_rfl) (Mur.attC k2 r2 n2 t2).toArray 97 (Mur.attC_size hk2 hr2 ht2) (by kernel_rfl) 36 (0, 0) (Wk.Chg.hp ch28 (Wk.Chg.hp ch24 (Wk.Chg.hp ch16 (Wk.Chg.hp ch5 (Wk.Chg.hp ch4 (Wk.Chg.hp ch3 hb2 trivial) trivial) trivial) trivial) trivial) trivial)) ?_
          by_cases hatt15 : k1 = k2 ∧ r1 = r2 ∧ n1 = n2 ∧ t1 = t2
          · refine Wk.rPure 2 (some 25) (.bool true) rfl rfl (by kernel_rfl) (Wk.boolT (b := decide (k1 = k2 ∧ r1 = r2 ∧ n1 = n2 ∧ t1 = t2)) (decide_eq_true (hatt15)) (run_eql_att (.tmp 23) (.tmp 24) 36 rfl hk1 hr1 ht1 hk2 hr2 ht2 hwn1 hwn2 (by kernel_rfl) (by kernel_rfl))) ?_
            refine Wk.rPure 3 (some 26) (.bool false) rfl rfl (by kernel_rfl) (by kernel_rfl) ?_
            refine Wk.rPure 4 (some 27) (.bool true) rfl rfl (by kernel_rfl) (by kernel_rfl) ?_
            refine Wk.rPure 5 (some 28) (.bool true) rfl rfl (by kernel_rfl) (by kernel_rfl) ?_
            refine Wk.rPure 6 (some 29) (.bool false) rfl rfl (by kernel_rfl) (by kernel_rfl) ?_
            refine Wk.rPure 7 (some 30) (.bool true) rfl rfl (by kernel_rfl) (by kernel_rfl) ?_
            refine Wk.rPure 8 (some 31) (.bool true) rfl rfl (by kernel_rfl) (by kernel_rfl) ?_
            refine Wk.rPure 9 (some 32) (.bool false) rfl rfl (by kernel_rfl) (by kernel_rfl) ?_
            refine Wk.rPure 10 (some 33) (.bool false) rfl rfl (by kernel_rfl) (by kernel_rfl) ?_
            refine Wk.rPure 11 (some 34) (.bool false) rfl rfl (by kernel_rfl) (by kernel_rfl) ?_
            refine Wk.rPure 12 (some 35) (.bool false) rfl rfl (by kernel_rfl) (by kernel_rfl) ?_
            refine Wk.rPass 13 (some 36) rfl rfl (by kernel_rfl) ?_
            refine Wk.rPure 14 (some 37) (.bool false) rfl rfl (by kernel_rfl) (by kernel_rfl) ?_
            refine Wk.rPure 15 (some 38) (.bool false) rfl rfl (by kernel_rfl) (by kernel_rfl) ?_
            refine Wk.rPure 16 (some 39) (.bool false) rfl rfl (by kernel_rfl) (by kernel_rfl) ?_
            refine Wk.rPure 17 (some 40) (.bool false) rfl rfl (by kernel_rfl) (by kernel_rfl) ?_
            refine Wk.rPure 18 (some 41) (.bool false) rfl rfl (by kernel_rfl) (by kernel_rfl) ?_
            refine Wk.rPass 19 (some 42) rfl rfl (by kernel_rfl) ?_
            refine Wk.rPure 20 (some 43) (.bool false) rfl rfl (by kernel_rfl) (by kernel_rfl) ?_
            refine Wk.rPure 21 (some 44) (.bool false) rfl rfl (by kernel_rfl) (by kernel_rfl) ?_
            refine Wk.rPass 22 (some 45) rfl rfl (by kernel_rfl) ?_
            refine Wk.rPass 23 (some 46) rfl rfl (by kernel_rfl) ?_
            refine Wk.rPure 24 (some 47) (.bool false) rfl rfl (by kernel_rfl) (by kernel_rfl) ?_
            refine Wk.rPure 25 (some 48) (.bool false) rfl rfl (by kernel_rfl) (by kernel_rfl) ?_
            refine Wk.rEnd 26 rfl ?_
            refine Wk.nxt ?_
            refine wp_cond_false (by kernel_rfl) ?_
            refine wp_skip ?_
            refine Wk.nxt ?_
            refine wp_seq ?_
            refine Wk.reg ?_
            refine Wk.rCall 0 (some 49) 17 [] #[] [] rfl rfl (by kernel_rfl) rfl (by kernel_rfl) (by kernel_rfl) ?_
            have kk82 : Wk.Chg [] w W1 := Wk.Chg.step ((Wk.Chg.refl _).more (by simp)) ch1 trivial
            have kk83 := Wk.Chg.step kk82 ch2 trivial
            have kk84 := Wk.Chg.step kk83 ch3 trivial
            have kk85 := Wk.Chg.step kk84 ch4 trivial
            have kk86 := Wk.Chg.step kk85 ch5 trivial
            have kk87 := Wk.Chg.step kk86 ch16 trivial
            have kk88 := Wk.Chg.step kk87 ch24 trivial
            have kk89 := Wk.Chg.step kk88 ch28 trivial
            refine (known9_any W28 (HV.out.below (Wk.Chg.below0 kk89))).mono ?_
            rintro _ W29 ⟨rfl, ch29⟩
            have zz43 := ch29.size
            refine ⟨_, rfl, ?_⟩
            refine Wk.rPure 1 (some 6) (.bool true) rfl rfl (by kernel_rfl) (by kernel_rfl) ?_
            refine Wk.rEnd 2 rfl ?_
            refine Wk.nxt ?_
            refine wp_ret ?_
            have kk90 := Wk.Chg.step kk89 ch29 trivial
            refine Wk.ret (.bool true) rfl (by kernel_rfl) ?_
            exact ⟨rfl, Wk.Chg.below0 kk90⟩
          · refine Wk.rPure 2 (some 25) (.bool false) rfl rfl (by kernel_rfl) (Wk.boolF (b := decide (k1 = k2 ∧ r1 = r2 ∧ n1 = n2 ∧ t1 = t2)) (decide_eq_false (hatt15)) (run_eql_att (.tmp 23) (.tmp 24) 36 rfl hk1 hr1 ht1 hk2 hr2 ht2 hwn1 hwn2 (by kernel_rfl) (by kernel_rfl))) ?_
            refine Wk.rPure 3 (some 26) (.bool false) rfl rfl (by kernel_rfl) (by kernel_rfl) ?_
            refine Wk.rPure 4 (some 27) (.bool true) rfl rfl (by kernel_rfl) (by kernel_rfl) ?_
            refine Wk.rPure 5 (some 28) (.bool true) rfl rfl (by kernel_rfl) (by kernel_rfl) ?_
            refine Wk.rPure 6 (some 29) (.bool false) rfl rfl (by kernel_rfl) (by kernel_rfl) ?_
            refine Wk.rPure 7 (some 30) (.bool true) rfl rfl (by kernel_rfl) (by kernel_rfl) ?_
            refine Wk.rPure 8 (some 31) (.bool true) rfl rfl (by kernel_rfl) (by kernel_rfl) ?_
            refine Wk.rPure 9 (some 32) (.bool true) rfl rfl (by kernel_rfl) (by kernel_rfl) ?_
            refine Wk.rPure 10 (some 33) (.bool true) rfl rfl (by kernel_rfl) (by kernel_rfl) ?_
            refine Wk.rPass 11 (some 34) rfl rfl (by kernel_rfl) ?_
            refine Wk.rPass 12 (some 35) rfl rfl (by kernel_rfl) ?_
            refine Wk.rPass 13 (some 36) rfl rfl (by kernel_rfl) ?_
            refine Wk.rPass 14 (some 37) rfl rfl (by kernel_rfl) ?_
            refine Wk.rPure 15 (some 38) (.bool true) rfl rfl (by kernel_rfl) (by kernel_rfl) ?_
            refine Wk.rPure 16 (some 39) (.bool true) rfl rfl (by kernel_rfl) (by kernel_rfl) ?_
            refine Wk.rPass 17 (some 40) rfl rfl (by kernel_rfl) ?_
            refine Wk.rPass 18 (some 41) rfl rfl (by kernel_rfl) ?_
            refine Wk.rPass 19 (some 42) rfl rfl (by kernel_rfl) ?_
            refine Wk.rPass 20 (some 43) rfl rfl (by kernel_rfl) ?_
            refine Wk.rPass 21 (some 44) rfl rfl (by kernel_rfl) ?_
            refine Wk.rPass 22 (some 45) rfl rfl (by kernel_rfl) ?_
            refine Wk.rPass 23 (some 46) rfl rfl (by kernel_rfl) ?_
            refine Wk.rPass 24 (some 47) rfl rfl (by kernel_rfl) ?_
            refine Wk.rPure 25 (some 48) (.bool true) rfl rfl (by kernel_rfl) (by kernel_rfl) ?_
            refine Wk.rEnd 26 rfl ?_
            refine Wk.nxt ?_
            refine wp_cond_true (by kernel_rfl) ?_
            refine wp_seq ?_
            refine Wk.reg ?_
            refine Wk.rPure 0 (some 6) (.bool false) rfl rfl (by kernel_rfl) (by kernel_rfl) ?_
            refine Wk.rEnd 1 rfl ?_
            refine Wk.nxt ?_
            refine wp_ret ?_
            refine Wk.thR ?_
            exfalso
            have o1 := Mur.cmp_flip (Mur.rawL k1 r1 n1 t1) (Mur.rawL k2 r2 n2 t2)
            have o2 := Mur.cmp_zero (Mur.rawL k1 r1 n1 t1) (Mur.rawL k2 r2 n2 t2)
            have o3 := Mur.cmp_trans (Mur.rawL k1 r1 n1 t1) (Mur.rawL k2 r2 n2 t2) (Mur.rawL k3 r3 n3 t3)
            have o4 := Mur.rawL_inj (t := t1) (t' := t2) hk1 hr1 hk2 hr2 hwn1 hwn2
            have o5 := Mur.cmp_self (Mur.rawL k1 r1 n1 t1)
            have o6 : ¬ Go.Lib.compareBytes (Mur.rawL k1 r1 n1 t1) (Mur.rawL k2 r2 n2 t2) = 0 := fun z => hatt15 (o4.1 (o2 z))
            first | omega | exact absurd (o3 (by omega) (by omega)) (by omega)
        · rw [decide_eq_false (hls15 : ¬ Go.Lib.compareBytes (Mur.rawL k1 r1 n1 t1) (Mur.rawL k3 r3 n3 t3) < 0)]
          rintro _ W28 ⟨rfl, ch28⟩
          have zz44 := ch28.size
          have sS31 := Wk.Chg.step sS29 ch28 trivial
          refine ⟨_, rfl, sS31, ?_⟩
          refine Wk.dVal 12 (some 7) (.bool false) rfl rfl (by kernel_rfl) (by kernel_rfl) (by kernel_rfl) (fun _ _ _ h => h) (by kernel_rfl) (fun w' hw' => by kernel_rfl) sS31 ?_
          refine Wk.dVal 13 (some 8) (.bool false) rfl rfl (by kernel_rfl) (by kernel_rfl) (by kernel_rfl) (fun _ _ _ h => h) (by kernel_rfl) (fun w' hw' => by kernel_rfl) sS31 ?_
          refine Wk.dVal 14 (some 9) (.bool false) rfl rfl (by kernel_rfl) (by kernel_rfl) (by kernel_rfl) (fun _ _ _ h => h) (by kernel_rfl) (fun w' hw' => by kernel_rfl) sS31 ?_
          refine Wk.dVal 15 (some 10) (.bool false) rfl rfl (by kernel_rfl) (by kernel_rfl) (by kernel_rfl) (fun _ _ _ h => h) (by kernel_rfl) (fun w' hw' => by kernel_rfl) sS31 ?_
          refine Wk.dEnd (by kernel_rfl) ?_
          refine Wk.nxt ?_
          refine wp_seq ?_
          refine wp_seq ?_
          refine Wk.reg ?_
          refine Wk.rPure 0 (some 23) (.agg ((Mur.attC k1 r1 n1 t1).toArray)) rfl rfl (by kernel_rfl) (Mur.loadArr 36 (.tmp 3) rfl _ Tryd.underlying36 rfl w.heap.size (by kernel_rfl) (Mur.attC k1 r1 n1 t1).toArray 97 (Mur.attC_size hk1 hr1 ht1) (by kernel_rfl) 36 (0, 0) (Wk.Chg.hp ch28 (Wk.Chg.hp ch24 (Wk.Chg.hp ch16 (Wk.Chg.hp ch5 (Wk.Chg.hp ch4 (Wk.Chg.hp ch3 (Wk.Chg.hp ch2 hb1 trivial) trivial) trivial) trivial) trivial) trivial) trivial)) ?_
          refine Wk.rPure 1 (some 24) (.agg ((Mur.attC k2 r2 n2 t2).toArray)) rfl rfl (by kernel_rfl) (Mur.loadArr 36 (.tmp 4) rfl _ Tryd.underlying36 rfl W1.heap.size (by kernel_rfl) (Mur.attC k2 r2 n2 t2).toArray 97 (Mur.attC_size hk2 hr2 ht2) (by kernel_rfl) 36 (0, 0) (Wk.Chg.hp ch28 (Wk.Chg.hp ch24 (Wk.Chg.hp ch16 (Wk.Chg.hp ch5 (Wk.Chg.hp ch4 (Wk.Chg.hp ch3 hb2 trivial) trivial) trivial) trivial) trivial) trivial)) ?_
          by_cases hatt16 : k1 = k2 ∧ r1 = r2 ∧ n1 = n2 ∧ t1 = t2
          · refine Wk.rPure 2 (some 25) (.bool true) rfl rfl (by kernel_rfl) (Wk.boolT (b := decide (k1 = k2 ∧ r1 = r2 ∧ n1 = n2 ∧ t1 = t2)) (decide_eq_true (hatt16)) (run_eql_att (.tmp 23) (.tmp 24) 36 rfl hk1 hr1 ht1 hk2 hr2 ht2 hwn1 hwn2 (by kernel_rfl) (by kernel_rfl))) ?_
            refine Wk.rPure 3 (some 26) (.bool false) rfl rfl (by kernel_rfl) (by kernel_rfl) ?_
            refine Wk.rPure 4 (some 27) (.bool true) rfl rfl (by kernel_rfl) (by kernel_rfl) ?_
            refine Wk.rPure 5 (some 28) (.bool true) rfl rfl (by kernel_rfl) (by kernel_rfl) ?_
            refine Wk.rPure 6 (some 29) (.bool false) rfl rfl (by kernel_rfl) (by kernel_rfl) ?_
            refine Wk.rPure 7 (some 30) (.bool true) rfl rfl (by kernel_rfl) (by kernel_rfl) ?_
            refine Wk.rPure 8 (some 31) (.bool true) rfl rfl (by kernel_rfl) (by kernel_rfl) ?_
            refine Wk.rPure 9 (some 32) (.bool false) rfl rfl (by kernel_rfl) (by kernel_rfl) ?_
            refine Wk.rPure 10 (some 33) (.bool false) rfl rfl (by kernel_rfl) (by kernel_rfl) ?_
            refine Wk.rPure 11 (some 34) (.bool false) rfl rfl (by kernel_rfl) (by kernel_rfl) ?_
            refine Wk.rPure 12 (some 35) (.bool false) rfl rfl (by kernel_rfl) (by kernel_rfl) ?_
            refine Wk.rPass 13 (some 36) rfl rfl (by kernel_rfl) ?_
            refine Wk.rPure 14 (some 37) (.bool false) rfl rfl (by kernel_rfl) (by kernel_rfl) ?_
            refine Wk.rPure 15 (some 38) (.bool false) rfl rfl (by kernel_rfl) (by kernel_rfl) ?_
            refine Wk.rPure 16 (some 39) (.bool false) rfl rfl (by kernel_rfl) (by kernel_rfl) ?_
            refine Wk.rPure 17 (some 40) (.bool false) rfl rfl (by kernel_rfl) (by kernel_rfl) ?_
            refine Wk.rPure 18 (some 41) (.bool false) rfl rfl (by kernel_rfl) (by kernel_rfl) ?_
            refine Wk.rPass 19 (some 42) rfl rfl (by kernel_rfl) ?_
            refine Wk.rPure 20 (some 43) (.bool false) rfl rfl (by kernel_rfl) (by kernel_rfl) ?_
            refine Wk.rPure 21 (some 44) (.bool false) rfl rfl (by kernel_rfl) (by kernel_rfl) ?_
            refine Wk.rPass 22 (some 45) rfl rfl (by kernel_rfl) ?_
            refine Wk.rPass 23 (some 46) rfl rfl (by kernel_rfl) ?_
            refine Wk.rPure 24 (some 47) (.bool false) rfl rfl (by kernel_rfl) (by kernel_rfl) ?_
            refine Wk.rPure 25 (some 48) (.bool false) rfl rfl (by kernel_rfl) (by kernel_rfl) ?_
            refine Wk.rEnd 26 rfl ?_
            refine Wk.nxt ?_
            refine wp_cond_false (by kernel_rfl) ?_
            refine wp_skip ?_
            refine Wk.nxt ?_
            refine wp_seq ?_
            refine Wk.reg ?_
            refine Wk.rCall 0 (some 49) 17 [] #[] [] rfl rfl (by kernel_rfl) rfl (by kernel_rfl) (by kernel_rfl) ?_
            have kk91 : Wk.Chg [] w W1 := Wk.Chg.step ((Wk.Chg.refl _).more (by simp)) ch1 trivial
            have kk92 := Wk.Chg.step kk91 ch2 trivial
            have kk93 := Wk.Chg.step kk92 ch3 trivial
            have kk94 := Wk.Chg.step kk93 ch4 trivial
            have kk95 := Wk.Chg.step kk94 ch5 trivial
            have kk96 := Wk.Chg.step kk95 ch16 trivial
            have kk97 := Wk.Chg.step kk96 ch24 trivial
            have kk98 := Wk.Chg.step kk97 ch28 trivial
            refine (known9_any W28 (HV.out.below (Wk.Chg.below0 kk98))).mono ?_
            rintro _ W30 ⟨rfl, ch30⟩
            have zz45 := ch30.size
            refine ⟨_, rfl, ?_⟩
            refine Wk.rPure 1 (some 6) (.bool true) rfl rfl (by kernel_rfl) (by kernel_rfl) ?_
            refine Wk.rEnd 2 rfl ?_
            refine Wk.nxt ?_
            refine wp_ret ?_
            have kk99 := Wk.Chg.step kk98 ch30 trivial
            refine Wk.ret (.bool true) rfl (by kernel_rfl) ?_
            exact ⟨rfl, Wk.Chg.below0 kk99⟩
          · refine Wk.rPure 2 (some 25) (.bool false) rfl rfl (by kernel_rfl) (Wk.boolF (b := decide (k1 = k2 ∧ r1 = r2 ∧ n1 = n2 ∧ t1 = t2)) (decide_eq_false (hatt16)) (run_eql_att (.tmp 23) (.tmp 24) 36 rfl hk1 hr1 ht1 hk2 hr2 ht2 hwn1 hwn2 (by kernel_rfl) (by kernel_rfl))) ?_
            refine Wk.rPure 3 (some 26) (.bool false) rfl rfl (by kernel_rfl) (by kernel_rfl) ?_
            refine Wk.rPure 4 (some 27) (.bool true) rfl rfl (by kernel_rfl) (by kernel_rfl) ?_
            refine Wk.rPure 5 (some 28) (.bool true) rfl rfl (by kernel_rfl) (by kernel_rfl) ?_
            refine Wk.rPure 6 (some 29) (.bool false) rfl rfl (by kernel_rfl) (by kernel_rfl) ?_
            refine Wk.rPure 7 (some 30) (.bool true) rfl rfl (by kernel_rfl) (by kernel_rfl) ?_
            refine Wk.rPure 8 (some 31) (.bool true) rfl rfl (by kernel_rfl) (by kernel_rfl) ?_
            refine Wk.rPure 9 (some 32) (.bool true) rfl rfl (by kernel_rfl) (by kernel_rfl) ?_
            refine Wk.rPure 10 (some 33) (.bool true) rfl rfl (by kernel_rfl) (by kernel_rfl) ?_
            refine Wk.rPass 11 (some 34) rfl rfl (by kernel_rfl) ?_
            refine Wk.rPass 12 (some 35) rfl rfl (by kernel_rfl) ?_
            refine Wk.rPass 13 (some 36) rfl rfl (by kernel_rfl) ?_
            refine Wk.rPass 14 (some 37) rfl rfl (by kernel_rfl) ?_
            refine Wk.rPure 15 (some 38) (.bool true) rfl rfl (by kernel_rfl) (by kernel_rfl) ?_
            refine Wk.rPure 16 (some 39) (.bool true) rfl rfl (by kernel_rfl) (by kernel_rfl) ?_
            refine Wk.rPass 17 (some 40) rfl rfl (by kernel_rfl) ?_
            refine Wk.rPass 18 (some 41) rfl rfl (by kernel_rfl) ?_
            refine Wk.rPass 19 (some 42) rfl rfl (by kernel_rfl) ?_
            refine Wk.rPass 20 (some 43) rfl rfl (by kernel_rfl) ?_
            refine Wk.rPass 21 (some 44) rfl rfl (by kernel_rfl) ?_
            refine Wk.rPass 22 (some 45) rfl rfl (by kernel_rfl) ?_
            refine Wk.rPass 23 (some 46) rfl rfl (by kernel_rfl) ?_
            refine Wk.rPass 24 (some 47) rfl rfl (by kernel_rfl) ?_
            refine Wk.rPure 25 (some 48) (.bool true) rfl rfl (by kernel_rfl) (by kernel_rfl) ?_
            refine Wk.rEnd 26 rfl ?_
            refine Wk.nxt ?_
            refine wp_cond_true (by kernel_rfl) ?_
            refine wp_seq ?_
            refine Wk.reg ?_
            refine Wk.rPure 0 (some 6) (.bool false) rfl rfl (by kernel_rfl) (by kernel_rfl) ?_
            refine Wk.rEnd 1 rfl ?_
            refine Wk.nxt ?_
            refine wp_ret ?_
            refine Wk.thR ?_
            exfalso
            have o1 := Mur.cmp_flip (Mur.rawL k1 r1 n1 t1) (Mur.rawL k2 r2 n2 t2)
            have o2 := Mur.cmp_zero (Mur.rawL k1 r1 n1 t1) (Mur.rawL k2 r2 n2 t2)
            have o3 := Mur.cmp_trans (Mur.rawL k1 r1 n1 t1) (Mur.rawL k2 r2 n2 t2) (Mur.rawL k3 r3 n3 t3)
            have o4 := Mur.rawL_inj (t := t1) (t' := t2) hk1 hr1 hk2 hr2 hwn1 hwn2
            have o5 := Mur.cmp_self (Mur.rawL k1 r1 n1 t1)
            have o6 : ¬ Go.Lib.compareBytes (Mur.rawL k1 r1 n1 t1) (Mur.rawL k2 r2 n2 t2) = 0 := fun z => hatt16 (o4.1 (o2 z))
            first | omega | exact absurd (o3 (by omega) (by omega)) (by omega)
end Go.Proofs.YtljfjjofhclhiaaDoor
