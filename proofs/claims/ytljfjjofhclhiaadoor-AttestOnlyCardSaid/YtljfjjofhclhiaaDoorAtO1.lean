/- AttestOnly, walked. -/
import Derived.Test.YtljfjjofhclhiaaDoorAtD
namespace Go.Proofs.YtljfjjofhclhiaaDoor
open Go.RowKit
open Mur (b8s Byt Own8 Seg Segs flat cutA attC)
set_option maxRecDepth 100000
set_option maxHeartbeats 4000000
theorem only_any (s : List UInt8) (A : Option Addr) (m c : Nat) (k1 r1 t1 : List UInt8) (n1 : Int) (hk1 : k1.length = 32) (hr1 : r1.length = 32) (ht1 : t1.length = 32) (hwn1 : (Lit.int .i64 n1).wf = true) (k2 r2 t2 : List UInt8) (n2 : Int) (hk2 : k2.length = 32) (hr2 : r2.length = 32) (ht2 : t2.length = 32) (hwn2 : (Lit.int .i64 n2).wf = true) (w : World) (hv : ShaVars w) (hb : Byt w A m s) (hnc : m ≤ c) (ha : A = none → c = 0) : Calls Tryd.prog 8 #[.slice A m c, .agg (attC k1 r1 n1 t1).toArray, .agg (attC k2 r2 n2 t2).toArray] w fun e w' => e = .returned (.bool true) ∧ Below w.heap.size w w' := by
  have HV := Go.Lib.hid hv
  clear hv
  have HBY := Go.Lib.hid hb
  clear hb
  have HA := Go.Lib.hid ha
  clear ha
  refine calls_of_wp Tryd.func8 rfl ?_
  refine wp_seq ?_
  refine Wk.reg ?_
  refine Wk.rEx 0 (some 4) _ rfl rfl (by kernel_rfl) (Wk.new_ex (.pointer (some ⟨w.heap.size, 0, none⟩)) ((Mur.attC k1 r1 n1 t1).toArray) 36 (by kernel_rfl)) ?_
  rintro _ W1 ⟨rfl, hb1, ch1, sz1⟩
  have zz1 := ch1.size
  refine Wk.rEx 1 (some 5) _ rfl rfl (by kernel_rfl) (Wk.new_ex (.pointer (some ⟨W1.heap.size, 0, none⟩)) ((Mur.attC k2 r2 n2 t2).toArray) 36 (by kernel_rfl)) ?_
  rintro _ W2 ⟨rfl, hb2, ch2, sz2⟩
  have zz2 := ch2.size
  refine Wk.rPure 2 (some 6) (.bool false) rfl rfl (by kernel_rfl) (by kernel_rfl) ?_
  refine Wk.rEnd 3 rfl ?_
  refine Wk.nxt ?_
  refine wp_seq ?_
  refine wp_seq ?_
  refine Wk.reg ?_
  refine Wk.rPure 0 (some 12) (.slice A m c) rfl rfl (by kernel_rfl) (by kernel_rfl) ?_
  refine Wk.rPure 1 (some 13) (.int .i64 ((m : Nat) : Int)) rfl rfl (by kernel_rfl) (by kernel_rfl) ?_
  by_cases hx1 : ((m : Nat) : Int) > (300 : Int)
  · refine Wk.rPure 2 (some 14) (.bool true) rfl rfl (by kernel_rfl) (Wk.boolT (b := decide (((m : Nat) : Int) > (300 : Int))) (decide_eq_true (by first | exact hx1 | omega)) (by kernel_rfl)) ?_
    refine Wk.rPure 3 (some 15) (.bool true) rfl rfl (by kernel_rfl) (by kernel_rfl) ?_
    refine Wk.rPass 4 (some 16) rfl rfl (by kernel_rfl) ?_
    refine Wk.rPass 5 (some 17) rfl rfl (by kernel_rfl) ?_
    refine Wk.rPass 6 (some 18) rfl rfl (by kernel_rfl) ?_
    refine Wk.rPure 7 (some 19) (.bool true) rfl rfl (by kernel_rfl) (by kernel_rfl) ?_
    refine Wk.rPure 8 (some 20) (.bool true) rfl rfl (by kernel_rfl) (by kernel_rfl) ?_
    refine Wk.rPass 9 (some 21) rfl rfl (by kernel_rfl) ?_
    refine Wk.rPass 10 (some 22) rfl rfl (by kernel_rfl) ?_
    refine Wk.rPass 11 (some 23) rfl rfl (by kernel_rfl) ?_
    refine Wk.rPure 12 (some 24) (.bool true) rfl rfl (by kernel_rfl) (by kernel_rfl) ?_
    refine Wk.rEnd 13 rfl ?_
    refine Wk.nxt ?_
    refine wp_cond_true (by kernel_rfl) ?_
    refine wp_seq ?_
    refine Wk.reg ?_
    refine Wk.rCall 0 (some 25) 17 [] #[] [] rfl rfl (by kernel_rfl) rfl (by kernel_rfl) (by kernel_rfl) ?_
    have kk1 : Wk.Chg [] w W1 := Wk.Chg.step ((Wk.Chg.refl _).more (by simp)) ch1 trivial
    have kk2 := Wk.Chg.step kk1 ch2 trivial
    refine (known9_any W2 (HV.out.below (Wk.Chg.below0 kk2))).mono ?_
    rintro _ W3 ⟨rfl, ch3⟩
    have zz3 := ch3.size
    refine ⟨_, rfl, ?_⟩
    refine Wk.rPure 1 (some 6) (.bool true) rfl rfl (by kernel_rfl) (by kernel_rfl) ?_
    refine Wk.rEnd 2 rfl ?_
    refine Wk.nxt ?_
    refine wp_ret ?_
    refine Wk.thR ?_
    have kk3 := Wk.Chg.step kk2 ch3 trivial
    refine Wk.ret (.bool true) rfl (by kernel_rfl) ?_
    exact ⟨rfl, Wk.Chg.below0 kk3⟩
  · refine Wk.rPure 2 (some 14) (.bool false) rfl rfl (by kernel_rfl) (Wk.boolF (b := decide (((m : Nat) : Int) > (300 : Int))) (decide_eq_false (by first | exact hx1 | omega)) (by kernel_rfl)) ?_
    refine Wk.rPure 3 (some 15) (.bool false) rfl rfl (by kernel_rfl) (by kernel_rfl) ?_
    refine Wk.rPure 4 (some 16) (.agg ((Mur.attC k1 r1 n1 t1).toArray)) rfl rfl (by kernel_rfl) (Mur.loadArr 36 (.tmp 4) rfl _ Tryd.underlying36 rfl w.heap.size (by kernel_rfl) (Mur.attC k1 r1 n1 t1).toArray 97 (Mur.attC_size hk1 hr1 ht1) (by kernel_rfl) 36 (0, 0) (Wk.Chg.hp ch2 hb1 trivial)) ?_
    refine Wk.rCall 5 (some 17) 21 [.tmp 16] #[36] [.agg ((Mur.attC k1 r1 n1 t1).toArray)] rfl rfl (by kernel_rfl) rfl (by kernel_rfl) (by kernel_rfl) ?_
    by_cases hmay1 : Mur.may n1
    · have hmay1u : 1 ≤ n1 ∧ n1 ≤ 5000 := hmay1
      refine (Rmay_any k1 r1 t1 n1 hk1 hr1 ht1 W2).mono ?_
      rw [decide_eq_true (hmay1 : Mur.may n1)]
      rintro _ W4 ⟨rfl, ch4⟩
      have zz4 := ch4.size
      refine ⟨_, rfl, ?_⟩
      refine Wk.rPure 6 (some 18) (.bool false) rfl rfl (by kernel_rfl) (by kernel_rfl) ?_
      refine Wk.rPure 7 (some 19) (.bool false) rfl rfl (by kernel_rfl) (by kernel_rfl) ?_
      refine Wk.rPure 8 (some 20) (.bool false) rfl rfl (by kernel_rfl) (by kernel_rfl) ?_
      refine Wk.rPure 9 (some 21) (.agg ((Mur.attC k2 r2 n2 t2).toArray)) rfl rfl (by kernel_rfl) (Mur.loadArr 36 (.tmp 5) rfl _ Tryd.underlying36 rfl W1.heap.size (by kernel_rfl) (Mur.attC k2 r2 n2 t2).toArray 97 (Mur.attC_size hk2 hr2 ht2) (by kernel_rfl) 36 (0, 0) (Wk.Chg.hp ch4 hb2 trivial)) ?_
      refine Wk.rCall 10 (some 22) 21 [.tmp 21] #[36] [.agg ((Mur.attC k2 r2 n2 t2).toArray)] rfl rfl (by kernel_rfl) rfl (by kernel_rfl) (by kernel_rfl) ?_
      by_cases hmay2 : Mur.may n2
      · have hmay2u : 1 ≤ n2 ∧ n2 ≤ 5000 := hmay2
        refine (Rmay_any k2 r2 t2 n2 hk2 hr2 ht2 W4).mono ?_
        rw [decide_eq_true (hmay2 : Mur.may n2)]
        rintro _ W5 ⟨rfl, ch5⟩
        have zz5 := ch5.size
        refine ⟨_, rfl, ?_⟩
        refine Wk.rPure 11 (some 23) (.bool false) rfl rfl (by kernel_rfl) (by kernel_rfl) ?_
        refine Wk.rPure 12 (some 24) (.bool false) rfl rfl (by kernel_rfl) (by kernel_rfl) ?_
        refine Wk.rEnd 13 rfl ?_
        refine Wk.nxt ?_
        refine wp_cond_false (by kernel_rfl) ?_
        refine wp_skip ?_
        refine Wk.nxt ?_
        refine wp_seq ?_
        refine Wk.reg ?_
        refine Wk.rPure 0 (some 27) (.slice A m c) rfl rfl (by kernel_rfl) (by kernel_rfl) ?_
        refine Wk.rPure 1 (some 28) (.pointer (some ⟨w.heap.size, 0, none⟩)) rfl rfl (by kernel_rfl) (by kernel_rfl) ?_
        refine Wk.rPure 2 (some 29) (.agg ((b8s k1).toArray)) rfl rfl (by kernel_rfl) (Wk.loadR 25 (.tmp 28) rfl _ Tryd.underlying25 rfl w.heap.size 0 (by kernel_rfl) (b8s k1) (by rw [Mur.b8s_length, hk1]; kernel_rfl) (Mur.att_key (Wk.Chg.hp ch5 (Wk.Chg.hp ch4 (Wk.Chg.hp ch2 hb1 trivial) trivial) trivial))) ?_
        refine Wk.rPure 3 (some 30) (.pointer (some ⟨w.heap.size, 32, none⟩)) rfl rfl (by kernel_rfl) (by kernel_rfl) ?_
        refine Wk.rPure 4 (some 31) (.agg ((b8s r1).toArray)) rfl rfl (by kernel_rfl) (Wk.loadR 25 (.tmp 30) rfl _ Tryd.underlying25 rfl w.heap.size 32 (by kernel_rfl) (b8s r1) (by rw [Mur.b8s_length, hr1]; kernel_rfl) (Mur.att_root hk1 (Wk.Chg.hp ch5 (Wk.Chg.hp ch4 (Wk.Chg.hp ch2 hb1 trivial) trivial) trivial))) ?_
        refine Wk.rPure 5 (some 32) (.pointer (some ⟨w.heap.size, 64, none⟩)) rfl rfl (by kernel_rfl) (by kernel_rfl) ?_
        refine Wk.rPure 6 (some 33) (.int .i64 n1) rfl rfl (by kernel_rfl) (Wk.load1 3 (.tmp 32) rfl (by kernel_rfl) ⟨w.heap.size, 64, none⟩ (by kernel_rfl) (.int .i64 n1) (Mur.att_len hk1 hr1 (Wk.Chg.hp ch5 (Wk.Chg.hp ch4 (Wk.Chg.hp ch2 hb1 trivial) trivial) trivial))) ?_
        refine Wk.rCall 7 (some 34) 18 [.tmp 27, .tmp 29, .tmp 31, .tmp 33] #[22, 25, 25, 3] [.slice A m c, .agg ((b8s k1).toArray), .agg ((b8s r1).toArray), .int .i64 n1] rfl rfl (by kernel_rfl) rfl (by kernel_rfl) (by kernel_rfl) ?_
        have kk4 : Wk.Chg [] w W1 := Wk.Chg.step ((Wk.Chg.refl _).more (by simp)) ch1 trivial
        have kk5 := Wk.Chg.step kk4 ch2 trivial
        have kk6 := Wk.Chg.step kk5 ch4 trivial
        have kk7 := Wk.Chg.step kk6 ch5 trivial
        refine (Make_ok s A m c k1 r1 n1 hk1 hr1 W5 (HV.out.below (Wk.Chg.below0 kk7)) (Mur.byt_chg HBY.out kk7 (fun g off e hl => trivial)) (by omega) HA.out (by omega) hmay1).mono ?_
        rintro _ W6 ⟨dd1, hd1, hdl1, rfl, ch6⟩
        have zz6 := ch6.size
        refine ⟨_, rfl, ?_⟩
        refine Wk.rPure 8 (some 26) (.tuple #[.agg ((Mur.attC k1 r1 n1 dd1).toArray), .int .i64 0]) rfl rfl (by kernel_rfl) (by kernel_rfl) ?_
        refine Wk.rPure 9 (some 35) (.agg ((Mur.attC k1 r1 n1 dd1).toArray)) rfl rfl (by kernel_rfl) (by kernel_rfl) ?_
        refine Wk.rPure 10 (some 36) (.int .i64 0) rfl rfl (by kernel_rfl) (by kernel_rfl) ?_
        refine Wk.rEx 11 (some 7) _ rfl rfl (by kernel_rfl) (Wk.new_ex (.pointer (some ⟨W6.heap.size, 0, none⟩)) #[.int .u8 0, .int .u8 0, .int .u8 0, .int .u8 0, .int .u8 0, .int .u8 0, .int .u8 0, .int .u8 0, .int .u8 0, .int .u8 0, .int .u8 0, .int .u8 0, .int .u8 0, .int .u8 0, .int .u8 0, .int .u8 0, .int .u8 0, .int .u8 0, .int .u8 0, .int .u8 0, .int .u8 0, .int .u8 0, .int .u8 0, .int .u8 0, .int .u8 0, .int .u8 0, .int .u8 0, .int .u8 0, .int .u8 0, .int .u8 0, .int .u8 0, .int .u8 0, .int .u8 0, .int .u8 0, .int .u8 0, .int .u8 0, .int .u8 0, .int .u8 0, .int .u8 0, .int .u8 0, .int .u8 0, .int .u8 0, .int .u8 0, .int .u8 0, .int .u8 0, .int .u8 0, .int .u8 0, .int .u8 0, .int .u8 0, .int .u8 0, .int .u8 0, .int .u8 0, .int .u8 0, .int .u8 0, .int .u8 0, .int .u8 0, .int .u8 0, .int .u8 0, .int .u8 0, .int .u8 0, .int .u8 0, .int .u8 0, .int .u8 0, .int .u8 0, .int .i64 0, .int .u8 0, .int .u8 0, .int .u8 0, .int .u8 0, .int .u8 0, .int .u8 0, .int .u8 0, .int .u8 0, .int .u8 0, .int .u8 0, .int .u8 0, .int .u8 0, .int .u8 0, .int .u8 0, .int .u8 0, .int .u8 0, .int .u8 0, .int .u8 0, .int .u8 0, .int .u8 0, .int .u8 0, .int .u8 0, .int .u8 0, .int .u8 0, .int .u8 0, .int .u8 0, .int .u8 0, .int .u8 0, .int .u8 0, .int .u8 0, .int .u8 0, .int .u8 0] 36 (by kernel_rfl)) ?_
        rintro _ W7 ⟨rfl, hb3, ch7, sz3⟩
        have zz7 := ch7.size
        rw [← Mur.attC_zero] at hb3
        refine Wk.rExS 12 none _ rfl rfl (by kernel_rfl) (Mur.storeArr 36 (.tmp 7) (.tmp 35) rfl W6.heap.size (by kernel_rfl) (Mur.attC k1 r1 n1 dd1).toArray 97 (Mur.attC_size hk1 hr1 hdl1) Mur.attC_all (by kernel_rfl) (by kernel_rfl) 36 ((Mur.attC Mur.z32 Mur.z32 0 Mur.z32).toArray) hb3 (Mur.attC_size rfl rfl rfl)) ?_
        rintro W8 ⟨hb4, ch8⟩
        have zz8 := ch8.size
        refine Wk.rPure 13 (some 8) (.int .i64 0) rfl rfl (by kernel_rfl) (by kernel_rfl) ?_
        refine Wk.rEnd 14 rfl ?_
        refine Wk.nxt ?_
        refine wp_seq ?_
        refine wp_seq ?_
        refine Wk.reg ?_
        refine Wk.rPure 0 (some 37) (.int .i64 0) rfl rfl (by kernel_rfl) (by kernel_rfl) ?_
        refine Wk.rPure 1 (some 38) (.bool false) rfl rfl (by kernel_rfl) (Wk.boolF (b := ((0 : Int) != (0 : Int))) (bne_eq_false_iff_eq.2 (by decide)) (by kernel_rfl)) ?_
        refine Wk.rEnd 2 rfl ?_
        refine Wk.nxt ?_
        refine wp_cond_false (by kernel_rfl) ?_
        refine wp_skip ?_
        refine Wk.nxt ?_
        refine wp_seq ?_
        refine Wk.reg ?_
        refine Wk.rPure 0 (some 39) (.pointer (some ⟨W1.heap.size, 0, none⟩)) rfl rfl (by kernel_rfl) (by kernel_rfl) ?_
        refine Wk.rPure 1 (some 40) (.agg ((b8s k2).toArray)) rfl rfl (by kernel_rfl) (Wk.loadR 25 (.tmp 39) rfl _ Tryd.underlying25 rfl W1.heap.size 0 (by kernel_rfl) (b8s k2) (by rw [Mur.b8s_length, hk2]; kernel_rfl) (Mur.att_key (Wk.Chg.hp ch8 (Wk.Chg.hp ch7 (Wk.Chg.hp ch6 (Wk.Chg.hp ch5 (Wk.Chg.hp ch4 hb2 trivial) trivial) trivial) trivial) ⟨by omega, trivial⟩))) ?_
        refine Wk.rPure 2 (some 41) (.pointer (some ⟨W1.heap.size, 32, none⟩)) rfl rfl (by kernel_rfl) (by kernel_rfl) ?_
        refine Wk.rPure 3 (some 42) (.agg ((b8s r2).toArray)) rfl rfl (by kernel_rfl) (Wk.loadR 25 (.tmp 41) rfl _ Tryd.underlying25 rfl W1.heap.size 32 (by kernel_rfl) (b8s r2) (by rw [Mur.b8s_length, hr2]; kernel_rfl) (Mur.att_root hk2 (Wk.Chg.hp ch8 (Wk.Chg.hp ch7 (Wk.Chg.hp ch6 (Wk.Chg.hp ch5 (Wk.Chg.hp ch4 hb2 trivial) trivial) trivial) trivial) ⟨by omega, trivial⟩))) ?_
        refine Wk.rPure 4 (some 43) (.pointer (some ⟨W1.heap.size, 64, none⟩)) rfl rfl (by kernel_rfl) (by kernel_rfl) ?_
        refine Wk.rPure 5 (some 44) (.int .i64 n2) rfl rfl (by kernel_rfl) (Wk.load1 3 (.tmp 43) rfl (by kernel_rfl) ⟨W1.heap.size, 64, none⟩ (by kernel_rfl) (.int .i64 n2) (Mur.att_len hk2 hr2 (Wk.Chg.hp ch8 (Wk.Chg.hp ch7 (Wk.Chg.hp ch6 (Wk.Chg.hp ch5 (Wk.Chg.hp ch4 hb2 trivial) trivial) trivial) trivial) ⟨by omega, trivial⟩))) ?_
        refine Wk.rPure 6 (some 45) (.pointer (some ⟨W6.heap.size, 65, none⟩)) rfl rfl (by kernel_rfl) (by kernel_rfl) ?_
        refine Wk.rPure 7 (some 46) (.agg ((b8s dd1).toArray)) rfl rfl (by kernel_rfl) (Wk.loadR 25 (.tmp 45) rfl _ Tryd.underlying25 rfl W6.heap.size 65 (by kernel_rfl) (b8s dd1) (by rw [Mur.b8s_length, hdl1]; kernel_rfl) (Mur.att_tag hk1 hr1 hb4)) ?_
        refine Wk.rPure 8 (some 47) (.agg ((Mur.attC k2 r2 n2 dd1).toArray)) rfl rfl (by kernel_rfl) (Mur.run_built 36 _ rfl [(0, .agg ((b8s k2).toArray)), (1, .agg ((b8s r2).toArray)), (2, .int .i64 n2), (3, .agg ((b8s dd1).toArray))] (by kernel_rfl) _ (built4 hk2 hr2 hdl1)) ?_
        refine Wk.rEx 9 (some 9) _ rfl rfl (by kernel_rfl) (Wk.new_ex (.pointer (some ⟨W8.heap.size, 0, none⟩)) #[.int .u8 0, .int .u8 0, .int .u8 0, .int .u8 0, .int .u8 0, .int .u8 0, .int .u8 0, .int .u8 0, .int .u8 0, .int .u8 0, .int .u8 0, .int .u8 0, .int .u8 0, .int .u8 0, .int .u8 0, .int .u8 0, .int .u8 0, .int .u8 0, .int .u8 0, .int .u8 0, .int .u8 0, .int .u8 0, .int .u8 0, .int .u8 0, .int .u8 0, .int .u8 0, .int .u8 0, .int .u8 0, .int .u8 0, .int .u8 0, .int .u8 0, .int .u8 0, .int .u8 0, .int .u8 0, .int .u8 0, .int .u8 0, .int .u8 0, .int .u8 0, .int .u8 0, .int .u8 0, .int .u8 0, .int .u8 0, .int .u8 0, .int .u8 0, .int .u8 0, .int .u8 0, .int .u8 0, .int .u8 0, .int .u8 0, .int .u8 0, .int .u8 0, .int .u8 0, .int .u8 0, .int .u8 0, .int .u8 0, .int .u8 0, .int .u8 0, .int .u8 0, .int .u8 0, .int .u8 0, .int .u8 0, .int .u8 0, .int .u8 0, .int .u8 0, .int .i64 0, .int .u8 0, .int .u8 0, .int .u8 0, .int .u8 0, .int .u8 0, .int .u8 0, .int .u8 0, .int .u8 0, .int .u8 0, .int .u8 0, .int .u8 0, .int .u8 0, .int .u8 0, .int .u8 0, .int .u8 0, .int .u8 0, .int .u8 0, .int .u8 0, .int .u8 0, .int .u8 0, .int .u8 0, .int .u8 0, .int .u8 0, .int .u8 0, .int .u8 0, .int .u8 0, .int .u8 0, .int .u8 0, .int .u8 0, .int .u8 0, .int .u8 0, .int .u8 0] 36 (by kernel_rfl)) ?_
        rintro _ W9 ⟨rfl, hb5, ch9, sz4⟩
        have zz9 := ch9.size
        rw [← Mur.attC_zero] at hb5
        refine Wk.rExS 10 none _ rfl rfl (by kernel_rfl) (Mur.storeArr 36 (.tmp 9) (.tmp 47) rfl W8.heap.size (by kernel_rfl) (Mur.attC k2 r2 n2 dd1).toArray 97 (Mur.attC_size hk2 hr2 hdl1) Mur.attC_all (by kernel_rfl) (by kernel_rfl) 36 ((Mur.attC Mur.z32 Mur.z32 0 Mur.z32).toArray) hb5 (Mur.attC_size rfl rfl rfl)) ?_
        rintro W10 ⟨hb6, ch10⟩
        have zz10 := ch10.size
        refine Wk.rEnd 11 rfl ?_
        refine Wk.nxt ?_
        refine wp_seq ?_
        refine wp_seq ?_
        refine Wk.reg ?_
        refine Wk.rPure 0 (some 48) (.agg ((Mur.attC k1 r1 n1 dd1).toArray)) rfl rfl (by kernel_rfl) (Mur.loadArr 36 (.tmp 7) rfl _ Tryd.underlying36 rfl W6.heap.size (by kernel_rfl) (Mur.attC k1 r1 n1 dd1).toArray 97 (Mur.attC_size hk1 hr1 hdl1) (by kernel_rfl) 36 (0, 0) (Wk.Chg.hp ch10 (Wk.Chg.hp ch9 hb4 trivial) ⟨by omega, trivial⟩)) ?_
        refine Wk.rPure 1 (some 49) (.agg ((Mur.attC k2 r2 n2 dd1).toArray)) rfl rfl (by kernel_rfl) (Mur.loadArr 36 (.tmp 9) rfl _ Tryd.underlying36 rfl W8.heap.size (by kernel_rfl) (Mur.attC k2 r2 n2 dd1).toArray 97 (Mur.attC_size hk2 hr2 hdl1) (by kernel_rfl) 36 (0, 0) hb6) ?_
        by_cases hatt1 : k1 = k2 ∧ r1 = r2 ∧ n1 = n2 ∧ dd1 = dd1
        · refine Wk.rPure 2 (some 50) (.bool true) rfl rfl (by kernel_rfl) (Wk.boolT (b := decide (k1 = k2 ∧ r1 = r2 ∧ n1 = n2 ∧ dd1 = dd1)) (decide_eq_true (hatt1)) (run_eql_att (.tmp 48) (.tmp 49) 36 rfl hk1 hr1 hdl1 hk2 hr2 hdl1 hwn1 hwn2 (by kernel_rfl) (by kernel_rfl))) ?_
          refine Wk.rPure 3 (some 51) (.bool true) rfl rfl (by kernel_rfl) (by kernel_rfl) ?_
          refine Wk.rPass 4 (some 52) rfl rfl (by kernel_rfl) ?_
          refine Wk.rPass 5 (some 53) rfl rfl (by kernel_rfl) ?_
          refine Wk.rPass 6 (some 54) rfl rfl (by kernel_rfl) ?_
          refine Wk.rPass 7 (some 55) rfl rfl (by kernel_rfl) ?_
          refine Wk.rPure 8 (some 56) (.bool true) rfl rfl (by kernel_rfl) (by kernel_rfl) ?_
          refine Wk.rEnd 9 rfl ?_
          refine Wk.nxt ?_
          refine wp_cond_true (by kernel_rfl) ?_
          refine wp_seq ?_
          refine Wk.reg ?_
          refine Wk.rCall 0 (some 57) 17 [] #[] [] rfl rfl (by kernel_rfl) rfl (by kernel_rfl) (by kernel_rfl) ?_
          have kk8 := Wk.Chg.step kk7 ch6 trivial
          have kk9 := Wk.Chg.step kk8 ch7 trivial
          have kk10 := Wk.Chg.step kk9 ch8 ⟨.inr (by omega), trivial⟩
          have kk11 := Wk.Chg.step kk10 ch9 trivial
          have kk12 := Wk.Chg.step kk11 ch10 ⟨.inr (by omega), trivial⟩
          refine (known9_any W10 (HV.out.below (Wk.Chg.below0 kk12))).mono ?_
          rintro _ W11 ⟨rfl, ch11⟩
          have zz11 := ch11.size
          refine ⟨_, rfl, ?_⟩
          refine Wk.rPure 1 (some 6) (.bool true) rfl rfl (by kernel_rfl) (by kernel_rfl) ?_
          refine Wk.rEnd 2 rfl ?_
          refine Wk.nxt ?_
          refine wp_ret ?_
          refine Wk.thR ?_
          have kk13 := Wk.Chg.step kk12 ch11 trivial
          refine Wk.ret (.bool true) rfl (by kernel_rfl) ?_
          exact ⟨rfl, Wk.Chg.below0 kk13⟩
        · refine Wk.rPure 2 (some 50) (.bool false) rfl rfl (by kernel_rfl) (Wk.boolF (b := decide (k1 = k2 ∧ r1 = r2 ∧ n1 = n2 ∧ dd1 = dd1)) (decide_eq_false (hatt1)) (run_eql_att (.tmp 48) (.tmp 49) 36 rfl hk1 hr1 hdl1 hk2 hr2 hdl1 hwn1 hwn2 (by kernel_rfl) (by kernel_rfl))) ?_
          refine Wk.rPure 3 (some 51) (.bool false) rfl rfl (by kernel_rfl) (by kernel_rfl) ?_
          refine Wk.rPure 4 (some 52) (.slice A m c) rfl rfl (by kernel_rfl) (by kernel_rfl) ?_
          refine Wk.rPure 5 (some 53) (.agg ((Mur.attC k2 r2 n2 dd1).toArray)) rfl rfl (by kernel_rfl) (Mur.loadArr 36 (.tmp 9) rfl _ Tryd.underlying36 rfl W8.heap.size (by kernel_rfl) (Mur.attC k2 r2 n2 dd1).toArray 97 (Mur.attC_size hk2 hr2 hdl1) (by kernel_rfl) 36 (0, 0) hb6) ?_
          refine Wk.rCall 6 (some 54) 20 [.tmp 52, .tmp 53] #[22, 36] [.slice A m c, .agg ((Mur.attC k2 r2 n2 dd1).toArray)] rfl rfl (by kernel_rfl) rfl (by kernel_rfl) (by kernel_rfl) ?_
          have kk14 := Wk.Chg.step kk7 ch6 trivial
          have kk15 := Wk.Chg.step kk14 ch7 trivial
          have kk16 := Wk.Chg.step kk15 ch8 ⟨.inr (by omega), trivial⟩
          have kk17 := Wk.Chg.step kk16 ch9 trivial
          have kk18 := Wk.Chg.step kk17 ch10 ⟨.inr (by omega), trivial⟩
          refine (Right_any s A m c k2 r2 dd1 n2 hk2 hr2 hdl1 W10 (HV.out.below (Wk.Chg.below0 kk18)) (Mur.byt_chg HBY.out kk18 (fun g off e hl => trivial)) (by omega) HA.out (by omega)).mono ?_
          rintro _ W12 ⟨dr1, hd2, rfl, ch12⟩
          have zz12 := ch12.size
          by_cases hteq1 : dd1 = dr1
          · rw [decide_eq_true (⟨hmay2, hteq1⟩ : Mur.may n2 ∧ dd1 = dr1)]
            refine ⟨_, rfl, ?_⟩
            refine Wk.rPure 7 (some 55) (.bool false) rfl rfl (by kernel_rfl) (by kernel_rfl) ?_
            refine Wk.rPure 8 (some 56) (.bool false) rfl rfl (by kernel_rfl) (by kernel_rfl) ?_
            refine Wk.rEnd 9 rfl ?_
            refine Wk.nxt ?_
            refine wp_cond_false (by kernel_rfl) ?_
            refine wp_skip ?_
            refine Wk.nxt ?_
            refine wp_seq ?_
            refine Wk.dReg ([]) (by kernel_rfl) ?_
            intro W13 ch13 sz5
            have zz13 := ch13.size
            have sS1 : Wk.Chg ([]) W13 W13 := (Wk.Chg.refl _).more (by simp)
            refine Wk.dVal 0 (some 58) (.pointer (some ⟨w.heap.size, 0, none⟩)) rfl rfl (by kernel_rfl) (by kernel_rfl) (by kernel_rfl) (fun _ _ _ h => h) (by kernel_rfl) (fun w' hw' => by kernel_rfl) sS1 ?_
            refine Wk.dVal 1 (some 59) (.agg ((b8s k1).toArray)) rfl rfl (by kernel_rfl) (by kernel_rfl) (by kernel_rfl) (fun _ _ _ h => h) (by kernel_rfl) (fun w' hw' => (Wk.loadR 25 (.tmp 58) rfl _ Tryd.underlying25 rfl w.heap.size 0 (by kernel_rfl) (b8s k1) (by rw [Mur.b8s_length, hk1]; kernel_rfl) (Mur.att_key (Wk.Chg.hp hw' (Wk.Chg.hp ch13 (Wk.Chg.hp ch12 (Wk.Chg.hp ch10 (Wk.Chg.hp ch9 (Wk.Chg.hp ch8 (Wk.Chg.hp ch7 (Wk.Chg.hp ch6 (Wk.Chg.hp ch5 (Wk.Chg.hp ch4 (Wk.Chg.hp ch2 hb1 trivial) trivial) trivial) trivial) trivial) ⟨by omega, trivial⟩) trivial) ⟨by omega, trivial⟩) trivial) trivial) trivial)))) sS1 ?_
            refine Wk.dVal 2 (some 60) (.pointer (some ⟨w.heap.size, 32, none⟩)) rfl rfl (by kernel_rfl) (by kernel_rfl) (by kernel_rfl) (fun _ _ _ h => h) (by kernel_rfl) (fun w' hw' => by kernel_rfl) sS1 ?_
            refine Wk.dVal 3 (some 61) (.agg ((b8s r1).toArray)) rfl rfl (by kernel_rfl) (by kernel_rfl) (by kernel_rfl) (fun _ _ _ h => h) (by kernel_rfl) (fun w' hw' => (Wk.loadR 25 (.tmp 60) rfl _ Tryd.underlying25 rfl w.heap.size 32 (by kernel_rfl) (b8s r1) (by rw [Mur.b8s_length, hr1]; kernel_rfl) (Mur.att_root hk1 (Wk.Chg.hp hw' (Wk.Chg.hp ch13 (Wk.Chg.hp ch12 (Wk.Chg.hp ch10 (Wk.Chg.hp ch9 (Wk.Chg.hp ch8 (Wk.Chg.hp ch7 (Wk.Chg.hp ch6 (Wk.Chg.hp ch5 (Wk.Chg.hp ch4 (Wk.Chg.hp ch2 hb1 trivial) trivial) trivial) trivial) trivial) ⟨by omega, trivial⟩) trivial) ⟨by omega, trivial⟩) trivial) trivial) trivial)))) sS1 ?_
            refine Wk.dVal 4 (some 62) (.pointer (some ⟨w.heap.size, 64, none⟩)) rfl rfl (by kernel_rfl) (by kernel_rfl) (by kernel_rfl) (fun _ _ _ h => h) (by kernel_rfl) (fun w' hw' => by kernel_rfl) sS1 ?_
            refine Wk.dVal 5 (some 63) (.int .i64 n1) rfl rfl (by kernel_rfl) (by kernel_rfl) (by kernel_rfl) (fun _ _ _ h => h) (by kernel_rfl) (fun w' hw' => (Wk.load1 3 (.tmp 62) rfl (by kernel_rfl) ⟨w.heap.size, 64, none⟩ (by kernel_rfl) (.int .i64 n1) (Mur.att_len hk1 hr1 (Wk.Chg.hp hw' (Wk.Chg.hp ch13 (Wk.Chg.hp ch12 (Wk.Chg.hp ch10 (Wk.Chg.hp ch9 (Wk.Chg.hp ch8 (Wk.Chg.hp ch7 (Wk.Chg.hp ch6 (Wk.Chg.hp ch5 (Wk.Chg.hp ch4 (Wk.Chg.hp ch2 hb1 trivial) trivial) trivial) trivial) trivial) ⟨by omega, trivial⟩) trivial) ⟨by omega, trivial⟩) trivial) trivial) trivial)))) sS1 ?_
            refine Wk.dVal 7 (some 65) (.pointer (some ⟨W1.heap.size, 0, none⟩)) rfl rfl (by kernel_rfl) (by kernel_rfl) (by kernel_rfl) (fun _ _ _ h => h) (by kernel_rfl) (fun w' hw' => by kernel_rfl) sS1 ?_
            refine Wk.dVal 8 (some 66) (.agg ((b8s k2).toArray)) rfl rfl (by kernel_rfl) (by kernel_rfl) (by kernel_rfl) (fun _ _ _ h => h) (by kernel_rfl) (fun w' hw' => (Wk.loadR 25 (.tmp 65) rfl _ Tryd.underlying25 rfl W1.heap.size 0 (by kernel_rfl) (b8s k2) (by rw [Mur.b8s_length, hk2]; kernel_rfl) (Mur.att_key (Wk.Chg.hp hw' (Wk.Chg.hp ch13 (Wk.Chg.hp ch12 (Wk.Chg.hp ch10 (Wk.Chg.hp ch9 (Wk.Chg.hp ch8 (Wk.Chg.hp ch7 (Wk.Chg.hp ch6 (Wk.Chg.hp ch5 (Wk.Chg.hp ch4 hb2 trivial) trivial) trivial) trivial) ⟨by omega, trivial⟩) trivial) ⟨by omega, trivial⟩) trivial) trivial) trivial)))) sS1 ?_
            refine Wk.dVal 9 (some 67) (.pointer (some ⟨W1.heap.size, 32, none⟩)) rfl rfl (by kernel_rfl) (by kernel_rfl) (by kernel_rfl) (fun _ _ _ h => h) (by kernel_rfl) (fun w' hw' => by kernel_rfl) sS1 ?_
            refine Wk.dVal 10 (some 68) (.agg ((b8s r2).toArray)) rfl rfl (by kernel_rfl) (by kernel_rfl) (by kernel_rfl) (fun _ _ _ h => h) (by kernel_rfl) (fun w' hw' => (Wk.loadR 25 (.tmp 67) rfl _ Tryd.underlying25 rfl W1.heap.size 32 (by kernel_rfl) (b8s r2) (by rw [Mur.b8s_length, hr2]; kernel_rfl) (Mur.att_root hk2 (Wk.Chg.hp hw' (Wk.Chg.hp ch13 (Wk.Chg.hp ch12 (Wk.Chg.hp ch10 (Wk.Chg.hp ch9 (Wk.Chg.hp ch8 (Wk.Chg.hp ch7 (Wk.Chg.hp ch6 (Wk.Chg.hp ch5 (Wk.Chg.hp ch4 hb2 trivial) trivial) trivial) trivial) ⟨by omega, trivial⟩) trivial) ⟨by omega, trivial⟩) trivial) trivial) trivial)))) sS1 ?_
            refine Wk.dVal 11 (some 69) (.pointer (some ⟨W1.heap.size, 64, none⟩)) rfl rfl (by kernel_rfl) (by kernel_rfl) (by kernel_rfl) (fun _ _ _ h => h) (by kernel_rfl) (fun w' hw' => by kernel_rfl) sS1 ?_
            refine Wk.dVal 12 (some 70) (.int .i64 n2) rfl rfl (by kernel_rfl) (by kernel_rfl) (by kernel_rfl) (fun _ _ _ h => h) (by kernel_rfl) (fun w' hw' => (Wk.load1 3 (.tmp 69) rfl (by kernel_rfl) ⟨W1.heap.size, 64, none⟩ (by kernel_rfl) (.int .i64 n2) (Mur.att_len hk2 hr2 (Wk.Chg.hp hw' (Wk.Chg.hp ch13 (Wk.Chg.hp ch12 (Wk.Chg.hp ch10 (Wk.Chg.hp ch9 (Wk.Chg.hp ch8 (Wk.Chg.hp ch7 (Wk.Chg.hp ch6 (Wk.Chg.hp ch5 (Wk.Chg.hp ch4 hb2 trivial) trivial) trivial) trivial) ⟨by omega, trivial⟩) trivial) ⟨by omega, trivial⟩) trivial) trivial) trivial)))) sS1 ?_
            refine Wk.dOp 6 (by kernel_rfl) ?_
            refine Wk.oCall (some 64) 22 [.tmp 59, .tmp 61, .tmp 63] #[25, 25, 3] [.agg ((b8s k1).toArray), .agg ((b8s r1).toArray), .int .i64 n1] rfl rfl (by kernel_rfl) rfl (by kernel_rfl) (by kernel_rfl) ?_
            refine (Rbody_any k1 r1 n1 hk1 hr1 W13).mono ?_
            rintro _ W14 ⟨qb1, cb1, BB1, hBB1, rfl, hbb1, hq1, hq2, ch14⟩
            have zz14 := ch14.size
            have hBt1 : ∀ g off, (some ⟨qb1, 0, none⟩ : Option Addr) = some ⟨g, off, none⟩ → W13.heap.size ≤ g ∧ g < W14.heap.size := fun g off e => by cases e; exact hq1
            have sS2 := Wk.Chg.step sS1 ch14 trivial
            refine ⟨_, rfl, sS2, ?_⟩
            refine Wk.dOp 13 (by kernel_rfl) ?_
            refine Wk.oCall (some 71) 22 [.tmp 66, .tmp 68, .tmp 70] #[25, 25, 3] [.agg ((b8s k2).toArray), .agg ((b8s r2).toArray), .int .i64 n2] rfl rfl (by kernel_rfl) rfl (by kernel_rfl) (by kernel_rfl) ?_
            refine (Rbody_any k2 r2 n2 hk2 hr2 W14).mono ?_
            rintro _ W15 ⟨qb2, cb2, BB2, hBB2, rfl, hbb2, hq3, hq4, ch15⟩
            have zz15 := ch15.size
            have hBt2 : ∀ g off, (some ⟨qb2, 0, none⟩ : Option Addr) = some ⟨g, off, none⟩ → W14.heap.size ≤ g ∧ g < W15.heap.size := fun g off e => by cases e; exact hq3
            have sS3 := Wk.Chg.step sS2 ch15 trivial
            refine ⟨_, rfl, sS3, ?_⟩
            refine Wk.dVal 14 (some 10) (.slice (some ⟨qb1, 0, none⟩) 73 cb1) rfl rfl (by kernel_rfl) (by kernel_rfl) (by kernel_rfl) (fun _ _ _ h => h) (by kernel_rfl) (fun w' hw' => by kernel_rfl) sS3 ?_
            refine Wk.dVal 15 (some 11) (.slice (some ⟨qb2, 0, none⟩) 73 cb2) rfl rfl (by kernel_rfl) (by kernel_rfl) (by kernel_rfl) (fun _ _ _ h => h) (by kernel_rfl) (fun w' hw' => by kernel_rfl) sS3 ?_
            refine Wk.dEnd (by kernel_rfl) ?_
            refine Wk.nxt ?_
            refine wp_seq ?_
            refine Wk.reg ?_
            refine Wk.rPure 0 (some 72) (.slice (some ⟨qb1, 0, none⟩) 73 cb1) rfl rfl (by kernel_rfl) (by kernel_rfl) ?_
            refine Wk.rPure 1 (some 73) (.string (Mur.str BB1)) rfl rfl (by kernel_rfl) (Mur.run_str 22 9 (.tmp 72) 5 rfl Tryd.underlying22 Tryd.underlying5 Tryd.underlying9 (some ⟨qb1, 0, none⟩) 73 cb1 BB1 (by kernel_rfl) (Mur.byt_chg hbb1 ch15 (fun g off e hl => trivial))) ?_
            refine Wk.rPure 2 (some 74) (.slice (some ⟨qb2, 0, none⟩) 73 cb2) rfl rfl (by kernel_rfl) (by kernel_rfl) ?_
            refine Wk.rPure 3 (some 75) (.string (Mur.str BB2)) rfl rfl (by kernel_rfl) (Mur.run_str 22 9 (.tmp 74) 5 rfl Tryd.underlying22 Tryd.underlying5 Tryd.underlying9 (some ⟨qb2, 0, none⟩) 73 cb2 BB2 (by kernel_rfl) hbb2) ?_
            refine Wk.rPure 4 (some 76) (.bool true) rfl rfl (by kernel_rfl) (Wk.boolT (b := decide (BB1 ≠ BB2)) (decide_eq_true (fun q => hatt1 (by have b_ := Mur.body_inj hk1 hr1 hk2 hr2 hmay1 hmay2 (hBB1.out.symm.trans (q.trans hBB2.out)); exact ⟨b_.1, b_.2.1, b_.2.2, rfl⟩))) (Mur.strne 9 9 (.tmp 73) (.tmp 75) rfl BB1 BB2 (by kernel_rfl) (by kernel_rfl))) ?_
            refine Wk.rPure 5 (some 77) (.bool true) rfl rfl (by kernel_rfl) (by kernel_rfl) ?_
            refine Wk.rPure 6 (some 78) (.slice A m c) rfl rfl (by kernel_rfl) (by kernel_rfl) ?_
            refine Wk.rPure 7 (some 79) (.slice (some ⟨qb1, 0, none⟩) 73 cb1) rfl rfl (by kernel_rfl) (by kernel_rfl) ?_
            refine Wk.rCall 8 (some 80) 14 [.tmp 78, .tmp 79] #[22, 22] [.slice A m c, .slice (some ⟨qb1, 0, none⟩) 73 cb1] rfl rfl (by kernel_rfl) rfl (by kernel_rfl) (by kernel_rfl) ?_
            have kk19 := Wk.Chg.step kk18 ch12 trivial
            have kk20 := Wk.Chg.step kk19 ch13 trivial
            have kk21 := Wk.Chg.step kk20 ch14 trivial
            have kk22 := Wk.Chg.step kk21 ch15 trivial
            refine (Rtag_any s A m c BB1 (some ⟨qb1, 0, none⟩) 73 cb1 W15 (Mur.byt_chg HBY.out kk22 (fun g off e hl => trivial)) (by omega) HA.out (by omega) (Mur.byt_chg hbb1 ch15 (fun g off e hl => trivial)) (fun h => by cases h) (by omega)).mono ?_
            rintro _ W16 ⟨dd2, hd3, hdl2, rfl, ch16⟩
            have zz16 := ch16.size
            refine ⟨_, rfl, ?_⟩
            refine Wk.rPure 9 (some 81) (.slice A m c) rfl rfl (by kernel_rfl) (by kernel_rfl) ?_
            refine Wk.rPure 10 (some 82) (.slice (some ⟨qb2, 0, none⟩) 73 cb2) rfl rfl (by kernel_rfl) (by kernel_rfl) ?_
            refine Wk.rCall 11 (some 83) 14 [.tmp 81, .tmp 82] #[22, 22] [.slice A m c, .slice (some ⟨qb2, 0, none⟩) 73 cb2] rfl rfl (by kernel_rfl) rfl (by kernel_rfl) (by kernel_rfl) ?_
            have kk23 := Wk.Chg.step kk22 ch16 trivial
            refine (Rtag_any s A m c BB2 (some ⟨qb2, 0, none⟩) 73 cb2 W16 (Mur.byt_chg HBY.out kk23 (fun g off e hl => trivial)) (by omega) HA.out (by omega) (Mur.byt_chg hbb2 ch16 (fun g off e hl => trivial)) (fun h => by cases h) (by omega)).mono ?_
            rintro _ W17 ⟨dd3, hd4, hdl3, rfl, ch17⟩
            have zz17 := ch17.size
            refine ⟨_, rfl, ?_⟩
            refine Wk.rPure 12 (some 84) (.bool true) rfl rfl (by kernel_rfl) (Mur.run_eql_yes digT dd2 dd3 hdl2 hdl3 ((hd3.out.trans (by rw [hBB1.out])).trans ((hd1.out.symm.trans (hteq1.trans hd2.out)).trans (hd4.out.trans (by rw [hBB2.out])).symm)) _ (.tmp 80) (.tmp 83) 25 rfl (by kernel_rfl) (by kernel_rfl)) ?_
            refine Wk.rPure 13 (some 85) (.bool true) rfl rfl (by kernel_rfl) (by kernel_rfl) ?_
            refine Wk.rPure 14 (some 86) (.bool true) rfl rfl (by kernel_rfl) (by kernel_rfl) ?_
            refine Wk.rCall 15 (some 87) 17 [] #[] [] rfl rfl (by kernel_rfl) rfl (by kernel_rfl) (by kernel_rfl) ?_
            have kk24 := Wk.Chg.step kk23 ch17 trivial
            refine (known9_any W17 (HV.out.below (Wk.Chg.below0 kk24))).mono ?_
            rintro _ W18 ⟨rfl, ch18⟩
            have zz18 := ch18.size
            refine ⟨_, rfl, ?_⟩
            refine Wk.rPure 16 (some 88) (.bool true) rfl rfl (by kernel_rfl) (by kernel_rfl) ?_
            refine Wk.rPure 17 (some 6) (.bool true) rfl rfl (by kernel_rfl) (by kernel_rfl) ?_
            refine Wk.rEnd 18 rfl ?_
            refine Wk.nxt ?_
            refine wp_ret ?_
            have kk25 := Wk.Chg.step kk24 ch18 trivial
            refine Wk.ret (.bool true) rfl (by kernel_rfl) ?_
            exact ⟨rfl, Wk.Chg.below0 kk25⟩
          · rw [decide_eq_false (fun q => hteq1 q.2 : ¬ (Mur.may n2 ∧ dd1 = dr1))]
            refine ⟨_, rfl, ?_⟩
            refine Wk.rPure 7 (some 55) (.bool true) rfl rfl (by kernel_rfl) (by kernel_rfl) ?_
            refine Wk.rPure 8 (some 56) (.bool true) rfl rfl (by kernel_rfl) (by kernel_rfl) ?_
            refine Wk.rEnd 9 rfl ?_
            refine Wk.nxt ?_
            refine wp_cond_true (by kernel_rfl) ?_
            refine wp_seq ?_
            refine Wk.reg ?_
            refine Wk.rCall 0 (some 57) 17 [] #[] [] rfl rfl (by kernel_rfl) rfl (by kernel_rfl) (by kernel_rfl) ?_
            have kk26 := Wk.Chg.step kk18 ch12 trivial
            refine (known9_any W12 (HV.out.below (Wk.Chg.below0 kk26))).mono ?_
            rintro _ W19 ⟨rfl, ch19⟩
            have zz19 := ch19.size
            refine ⟨_, rfl, ?_⟩
            refine Wk.rPure 1 (some 6) (.bool true) rfl rfl (by kernel_rfl) (by kernel_rfl) ?_
            refine Wk.rEnd 2 rfl ?_
            refine Wk.nxt ?_
            refine wp_ret ?_
            refine Wk.thR ?_
            have kk27 := Wk.Chg.step kk26 ch19 trivial
            refine Wk.ret (.bool true) rfl (by kernel_rfl) ?_
            exact ⟨rfl, Wk.Chg.below0 kk27⟩
      · have hmay2u : ¬ (1 ≤ n2 ∧ n2 ≤ 5000) := hmay2
        refine (Rmay_any k2 r2 t2 n2 hk2 hr2 ht2 W4).mono ?_
        rw [decide_eq_false (hmay2 : ¬ Mur.may n2)]
        rintro _ W5 ⟨rfl, ch5⟩
        have zz20 := ch5.size
        refine ⟨_, rfl, ?_⟩
        refine Wk.rPure 11 (some 23) (.bool true) rfl rfl (by kernel_rfl) (by kernel_rfl) ?_
        refine Wk.rPure 12 (some 24) (.bool true) rfl rfl (by kernel_rfl) (by kernel_rfl) ?_
        refine Wk.rEnd 13 rfl ?_
        refine Wk.nxt ?_
        refine wp_cond_true (by kernel_rfl) ?_
        refine wp_seq ?_
        refine Wk.reg ?_
        refine Wk.rCall 0 (some 25) 17 [] #[] [] rfl rfl (by kernel_rfl) rfl (by kernel_rfl) (by kernel_rfl) ?_
        have kk28 : Wk.Chg [] w W1 := Wk.Chg.step ((Wk.Chg.refl _).more (by simp)) ch1 trivial
        have kk29 := Wk.Chg.step kk28 ch2 trivial
        have kk30 := Wk.Chg.step kk29 ch4 trivial
        have kk31 := Wk.Chg.step kk30 ch5 trivial
        refine (known9_any W5 (HV.out.below (Wk.Chg.below0 kk31))).mono ?_
        rintro _ W20 ⟨rfl, ch20⟩
        have zz21 := ch20.size
        refine ⟨_, rfl, ?_⟩
        refine Wk.rPure 1 (some 6) (.bool true) rfl rfl (by kernel_rfl) (by kernel_rfl) ?_
        refine Wk.rEnd 2 rfl ?_
        refine Wk.nxt ?_
        refine wp_ret ?_
        refine Wk.thR ?_
        have kk32 := Wk.Chg.step kk31 ch20 trivial
        refine Wk.ret (.bool true) rfl (by kernel_rfl) ?_
        exact ⟨rfl, Wk.Chg.below0 kk32⟩
    · have hmay1u : ¬ (1 ≤ n1 ∧ n1 ≤ 5000) := hmay1
      refine (Rmay_any k1 r1 t1 n1 hk1 hr1 ht1 W2).mono ?_
      rw [decide_eq_false (hmay1 : ¬ Mur.may n1)]
      rintro _ W4 ⟨rfl, ch4⟩
      have zz22 := ch4.size
      refine ⟨_, rfl, ?_⟩
      refine Wk.rPure 6 (some 18) (.bool true) rfl rfl (by kernel_rfl) (by kernel_rfl) ?_
      refine Wk.rPure 7 (some 19) (.bool true) rfl rfl (by kernel_rfl) (by kernel_rfl) ?_
      refine Wk.rPure 8 (some 20) (.bool true) rfl rfl (by kernel_rfl) (by kernel_rfl) ?_
      refine Wk.rPass 9 (some 21) rfl rfl (by kernel_rfl) ?_
      refine Wk.rPass 10 (some 22) rfl rfl (by kernel_rfl) ?_
      refine Wk.rPass 11 (some 23) rfl rfl (by kernel_rfl) ?_
      refine Wk.rPure 12 (some 24) (.bool true) rfl rfl (by kernel_rfl) (by kernel_rfl) ?_
      refine Wk.rEnd 13 rfl ?_
      refine Wk.nxt ?_
      refine wp_cond_true (by kernel_rfl) ?_
      refine wp_seq ?_
      refine Wk.reg ?_
      refine Wk.rCall 0 (some 25) 17 [] #[] [] rfl rfl (by kernel_rfl) rfl (by kernel_rfl) (by kernel_rfl) ?_
      have kk33 : Wk.Chg [] w W1 := Wk.Chg.step ((Wk.Chg.refl _).more (by simp)) ch1 trivial
      have kk34 := Wk.Chg.step kk33 ch2 trivial
      have kk35 := Wk.Chg.step kk34 ch4 trivial
      refine (known9_any W4 (HV.out.below (Wk.Chg.below0 kk35))).mono ?_
      rintro _ W21 ⟨rfl, ch21⟩
      have zz23 := ch21.size
      refine ⟨_, rfl, ?_⟩
      refine Wk.rPure 1 (some 6) (.bool true) rfl rfl (by kernel_rfl) (by kernel_rfl) ?_
      refine Wk.rEnd 2 rfl ?_
      refine Wk.nxt ?_
      refine wp_ret ?_
      refine Wk.thR ?_
      have kk36 := Wk.Chg.step kk35 ch21 trivial
      refine Wk.ret (.bool true) rfl (by kernel_rfl) ?_
      exact ⟨rfl, Wk.Chg.below0 kk36⟩
end Go.Proofs.YtljfjjofhclhiaaDoor
