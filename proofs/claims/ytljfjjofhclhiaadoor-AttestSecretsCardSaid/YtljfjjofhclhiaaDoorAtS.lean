/- AttestSecrets, walked. -/
import Derived.Test.YtljfjjofhclhiaaDoorAtD
namespace Go.Proofs.YtljfjjofhclhiaaDoor
open Go.RowKit
open Mur (b8s Byt Own8 Seg Segs flat cutA attC)
set_option maxRecDepth 100000
set_option maxHeartbeats 4000000
theorem secrets_any (s : List UInt8) (A : Option Addr) (m c : Nat) (s2 : List UInt8) (B : Option Addr) (m2 c2 : Nat) (k1 r1 t1 : List UInt8) (n1 : Int) (hk1 : k1.length = 32) (hr1 : r1.length = 32) (ht1 : t1.length = 32) (_hwn1 : (Lit.int .i64 n1).wf = true) (w : World) (hv : ShaVars w) (hb : Byt w A m s) (hnc : m ≤ c) (ha : A = none → c = 0) (hb2 : Byt w B m2 s2) (hnc2 : m2 ≤ c2) (ha2 : B = none → c2 = 0) : Calls Tryd.prog 9 #[.slice A m c, .slice B m2 c2, .agg (attC k1 r1 n1 t1).toArray] w fun e w' => e = .returned (.bool true) ∧ Below w.heap.size w w' := by
  have HV := Go.Lib.hid hv
  clear hv
  have HBY := Go.Lib.hid hb
  clear hb
  have HA := Go.Lib.hid ha
  clear ha
  have HB2 := Go.Lib.hid hb2
  clear hb2
  have HA2 := Go.Lib.hid ha2
  clear ha2
  refine calls_of_wp Tryd.func9 rfl ?_
  refine wp_seq ?_
  refine Wk.reg ?_
  refine Wk.rEx 0 (some 5) _ rfl rfl (by kernel_rfl) (Wk.new_ex (.pointer (some ⟨w.heap.size, 0, none⟩)) ((Mur.attC k1 r1 n1 t1).toArray) 36 (by kernel_rfl)) ?_
  rintro _ W1 ⟨rfl, hb1, ch1, sz1⟩
  have zz1 := ch1.size
  refine Wk.rPure 1 (some 6) (.bool false) rfl rfl (by kernel_rfl) (by kernel_rfl) ?_
  refine Wk.rEnd 2 rfl ?_
  refine Wk.nxt ?_
  refine wp_seq ?_
  refine wp_seq ?_
  refine Wk.reg ?_
  refine Wk.rPure 0 (some 10) (.slice A m c) rfl rfl (by kernel_rfl) (by kernel_rfl) ?_
  refine Wk.rPure 1 (some 11) (.int .i64 ((m : Nat) : Int)) rfl rfl (by kernel_rfl) (by kernel_rfl) ?_
  by_cases hx1 : ((m : Nat) : Int) > (300 : Int)
  · refine Wk.rPure 2 (some 12) (.bool true) rfl rfl (by kernel_rfl) (Wk.boolT (b := decide (((m : Nat) : Int) > (300 : Int))) (decide_eq_true (by first | exact hx1 | omega)) (by kernel_rfl)) ?_
    refine Wk.rPure 3 (some 13) (.bool true) rfl rfl (by kernel_rfl) (by kernel_rfl) ?_
    refine Wk.rPass 4 (some 14) rfl rfl (by kernel_rfl) ?_
    refine Wk.rPass 5 (some 15) rfl rfl (by kernel_rfl) ?_
    refine Wk.rPass 6 (some 16) rfl rfl (by kernel_rfl) ?_
    refine Wk.rPure 7 (some 17) (.bool true) rfl rfl (by kernel_rfl) (by kernel_rfl) ?_
    refine Wk.rPure 8 (some 18) (.bool true) rfl rfl (by kernel_rfl) (by kernel_rfl) ?_
    refine Wk.rPass 9 (some 19) rfl rfl (by kernel_rfl) ?_
    refine Wk.rPass 10 (some 20) rfl rfl (by kernel_rfl) ?_
    refine Wk.rPass 11 (some 21) rfl rfl (by kernel_rfl) ?_
    refine Wk.rPure 12 (some 22) (.bool true) rfl rfl (by kernel_rfl) (by kernel_rfl) ?_
    refine Wk.rEnd 13 rfl ?_
    refine Wk.nxt ?_
    refine wp_cond_true (by kernel_rfl) ?_
    refine wp_seq ?_
    refine Wk.reg ?_
    refine Wk.rCall 0 (some 23) 17 [] #[] [] rfl rfl (by kernel_rfl) rfl (by kernel_rfl) (by kernel_rfl) ?_
    have kk1 : Wk.Chg [] w W1 := Wk.Chg.step ((Wk.Chg.refl _).more (by simp)) ch1 trivial
    refine (known9_any W1 (HV.out.below (Wk.Chg.below0 kk1))).mono ?_
    rintro _ W2 ⟨rfl, ch2⟩
    have zz2 := ch2.size
    refine ⟨_, rfl, ?_⟩
    refine Wk.rPure 1 (some 6) (.bool true) rfl rfl (by kernel_rfl) (by kernel_rfl) ?_
    refine Wk.rEnd 2 rfl ?_
    refine Wk.nxt ?_
    refine wp_ret ?_
    refine Wk.thR ?_
    have kk2 := Wk.Chg.step kk1 ch2 trivial
    refine Wk.ret (.bool true) rfl (by kernel_rfl) ?_
    exact ⟨rfl, Wk.Chg.below0 kk2⟩
  · refine Wk.rPure 2 (some 12) (.bool false) rfl rfl (by kernel_rfl) (Wk.boolF (b := decide (((m : Nat) : Int) > (300 : Int))) (decide_eq_false (by first | exact hx1 | omega)) (by kernel_rfl)) ?_
    refine Wk.rPure 3 (some 13) (.bool false) rfl rfl (by kernel_rfl) (by kernel_rfl) ?_
    refine Wk.rPure 4 (some 14) (.slice B m2 c2) rfl rfl (by kernel_rfl) (by kernel_rfl) ?_
    refine Wk.rPure 5 (some 15) (.int .i64 ((m2 : Nat) : Int)) rfl rfl (by kernel_rfl) (by kernel_rfl) ?_
    by_cases hx2 : ((m2 : Nat) : Int) > (300 : Int)
    · refine Wk.rPure 6 (some 16) (.bool true) rfl rfl (by kernel_rfl) (Wk.boolT (b := decide (((m2 : Nat) : Int) > (300 : Int))) (decide_eq_true (by first | exact hx2 | omega)) (by kernel_rfl)) ?_
      refine Wk.rPure 7 (some 17) (.bool true) rfl rfl (by kernel_rfl) (by kernel_rfl) ?_
      refine Wk.rPure 8 (some 18) (.bool true) rfl rfl (by kernel_rfl) (by kernel_rfl) ?_
      refine Wk.rPass 9 (some 19) rfl rfl (by kernel_rfl) ?_
      refine Wk.rPass 10 (some 20) rfl rfl (by kernel_rfl) ?_
      refine Wk.rPass 11 (some 21) rfl rfl (by kernel_rfl) ?_
      refine Wk.rPure 12 (some 22) (.bool true) rfl rfl (by kernel_rfl) (by kernel_rfl) ?_
      refine Wk.rEnd 13 rfl ?_
      refine Wk.nxt ?_
      refine wp_cond_true (by kernel_rfl) ?_
      refine wp_seq ?_
      refine Wk.reg ?_
      refine Wk.rCall 0 (some 23) 17 [] #[] [] rfl rfl (by kernel_rfl) rfl (by kernel_rfl) (by kernel_rfl) ?_
      have kk3 : Wk.Chg [] w W1 := Wk.Chg.step ((Wk.Chg.refl _).more (by simp)) ch1 trivial
      refine (known9_any W1 (HV.out.below (Wk.Chg.below0 kk3))).mono ?_
      rintro _ W3 ⟨rfl, ch3⟩
      have zz3 := ch3.size
      refine ⟨_, rfl, ?_⟩
      refine Wk.rPure 1 (some 6) (.bool true) rfl rfl (by kernel_rfl) (by kernel_rfl) ?_
      refine Wk.rEnd 2 rfl ?_
      refine Wk.nxt ?_
      refine wp_ret ?_
      refine Wk.thR ?_
      have kk4 := Wk.Chg.step kk3 ch3 trivial
      refine Wk.ret (.bool true) rfl (by kernel_rfl) ?_
      exact ⟨rfl, Wk.Chg.below0 kk4⟩
    · refine Wk.rPure 6 (some 16) (.bool false) rfl rfl (by kernel_rfl) (Wk.boolF (b := decide (((m2 : Nat) : Int) > (300 : Int))) (decide_eq_false (by first | exact hx2 | omega)) (by kernel_rfl)) ?_
      refine Wk.rPure 7 (some 17) (.bool false) rfl rfl (by kernel_rfl) (by kernel_rfl) ?_
      refine Wk.rPure 8 (some 18) (.bool false) rfl rfl (by kernel_rfl) (by kernel_rfl) ?_
      refine Wk.rPure 9 (some 19) (.agg ((Mur.attC k1 r1 n1 t1).toArray)) rfl rfl (by kernel_rfl) (Mur.loadArr 36 (.tmp 5) rfl _ Tryd.underlying36 rfl w.heap.size (by kernel_rfl) (Mur.attC k1 r1 n1 t1).toArray 97 (Mur.attC_size hk1 hr1 ht1) (by kernel_rfl) 36 (0, 0) hb1) ?_
      refine Wk.rCall 10 (some 20) 21 [.tmp 19] #[36] [.agg ((Mur.attC k1 r1 n1 t1).toArray)] rfl rfl (by kernel_rfl) rfl (by kernel_rfl) (by kernel_rfl) ?_
      by_cases hmay1 : Mur.may n1
      · have hmay1u : 1 ≤ n1 ∧ n1 ≤ 5000 := hmay1
        refine (Rmay_any k1 r1 t1 n1 hk1 hr1 ht1 W1).mono ?_
        rw [decide_eq_true (hmay1 : Mur.may n1)]
        rintro _ W4 ⟨rfl, ch4⟩
        have zz4 := ch4.size
        refine ⟨_, rfl, ?_⟩
        refine Wk.rPure 11 (some 21) (.bool false) rfl rfl (by kernel_rfl) (by kernel_rfl) ?_
        refine Wk.rPure 12 (some 22) (.bool false) rfl rfl (by kernel_rfl) (by kernel_rfl) ?_
        refine Wk.rEnd 13 rfl ?_
        refine Wk.nxt ?_
        refine wp_cond_false (by kernel_rfl) ?_
        refine wp_skip ?_
        refine Wk.nxt ?_
        refine wp_seq ?_
        refine Wk.reg ?_
        refine Wk.rPure 0 (some 25) (.slice A m c) rfl rfl (by kernel_rfl) (by kernel_rfl) ?_
        refine Wk.rPure 1 (some 26) (.pointer (some ⟨w.heap.size, 0, none⟩)) rfl rfl (by kernel_rfl) (by kernel_rfl) ?_
        refine Wk.rPure 2 (some 27) (.agg ((b8s k1).toArray)) rfl rfl (by kernel_rfl) (Wk.loadR 25 (.tmp 26) rfl _ Tryd.underlying25 rfl w.heap.size 0 (by kernel_rfl) (b8s k1) (by rw [Mur.b8s_length, hk1]; kernel_rfl) (Mur.att_key (Wk.Chg.hp ch4 hb1 trivial))) ?_
        refine Wk.rPure 3 (some 28) (.pointer (some ⟨w.heap.size, 32, none⟩)) rfl rfl (by kernel_rfl) (by kernel_rfl) ?_
        refine Wk.rPure 4 (some 29) (.agg ((b8s r1).toArray)) rfl rfl (by kernel_rfl) (Wk.loadR 25 (.tmp 28) rfl _ Tryd.underlying25 rfl w.heap.size 32 (by kernel_rfl) (b8s r1) (by rw [Mur.b8s_length, hr1]; kernel_rfl) (Mur.att_root hk1 (Wk.Chg.hp ch4 hb1 trivial))) ?_
        refine Wk.rPure 5 (some 30) (.pointer (some ⟨w.heap.size, 64, none⟩)) rfl rfl (by kernel_rfl) (by kernel_rfl) ?_
        refine Wk.rPure 6 (some 31) (.int .i64 n1) rfl rfl (by kernel_rfl) (Wk.load1 3 (.tmp 30) rfl (by kernel_rfl) ⟨w.heap.size, 64, none⟩ (by kernel_rfl) (.int .i64 n1) (Mur.att_len hk1 hr1 (Wk.Chg.hp ch4 hb1 trivial))) ?_
        refine Wk.rCall 7 (some 32) 18 [.tmp 25, .tmp 27, .tmp 29, .tmp 31] #[22, 25, 25, 3] [.slice A m c, .agg ((b8s k1).toArray), .agg ((b8s r1).toArray), .int .i64 n1] rfl rfl (by kernel_rfl) rfl (by kernel_rfl) (by kernel_rfl) ?_
        have kk5 : Wk.Chg [] w W1 := Wk.Chg.step ((Wk.Chg.refl _).more (by simp)) ch1 trivial
        have kk6 := Wk.Chg.step kk5 ch4 trivial
        refine (Make_ok s A m c k1 r1 n1 hk1 hr1 W4 (HV.out.below (Wk.Chg.below0 kk6)) (Mur.byt_chg HBY.out kk6 (fun g off e hl => trivial)) (by omega) HA.out (by omega) hmay1).mono ?_
        rintro _ W5 ⟨dd1, hd1, hdl1, rfl, ch5⟩
        have zz5 := ch5.size
        refine ⟨_, rfl, ?_⟩
        refine Wk.rPure 8 (some 24) (.tuple #[.agg ((Mur.attC k1 r1 n1 dd1).toArray), .int .i64 0]) rfl rfl (by kernel_rfl) (by kernel_rfl) ?_
        refine Wk.rPure 9 (some 33) (.agg ((Mur.attC k1 r1 n1 dd1).toArray)) rfl rfl (by kernel_rfl) (by kernel_rfl) ?_
        refine Wk.rPure 10 (some 34) (.int .i64 0) rfl rfl (by kernel_rfl) (by kernel_rfl) ?_
        refine Wk.rEx 11 (some 7) _ rfl rfl (by kernel_rfl) (Wk.new_ex (.pointer (some ⟨W5.heap.size, 0, none⟩)) #[.int .u8 0, .int .u8 0, .int .u8 0, .int .u8 0, .int .u8 0, .int .u8 0, .int .u8 0, .int .u8 0, .int .u8 0, .int .u8 0, .int .u8 0, .int .u8 0, .int .u8 0, .int .u8 0, .int .u8 0, .int .u8 0, .int .u8 0, .int .u8 0, .int .u8 0, .int .u8 0, .int .u8 0, .int .u8 0, .int .u8 0, .int .u8 0, .int .u8 0, .int .u8 0, .int .u8 0, .int .u8 0, .int .u8 0, .int .u8 0, .int .u8 0, .int .u8 0, .int .u8 0, .int .u8 0, .int .u8 0, .int .u8 0, .int .u8 0, .int .u8 0, .int .u8 0, .int .u8 0, .int .u8 0, .int .u8 0, .int .u8 0, .int .u8 0, .int .u8 0, .int .u8 0, .int .u8 0, .int .u8 0, .int .u8 0, .int .u8 0, .int .u8 0, .int .u8 0, .int .u8 0, .int .u8 0, .int .u8 0, .int .u8 0, .int .u8 0, .int .u8 0, .int .u8 0, .int .u8 0, .int .u8 0, .int .u8 0, .int .u8 0, .int .u8 0, .int .i64 0, .int .u8 0, .int .u8 0, .int .u8 0, .int .u8 0, .int .u8 0, .int .u8 0, .int .u8 0, .int .u8 0, .int .u8 0, .int .u8 0, .int .u8 0, .int .u8 0, .int .u8 0, .int .u8 0, .int .u8 0, .int .u8 0, .int .u8 0, .int .u8 0, .int .u8 0, .int .u8 0, .int .u8 0, .int .u8 0, .int .u8 0, .int .u8 0, .int .u8 0, .int .u8 0, .int .u8 0, .int .u8 0, .int .u8 0, .int .u8 0, .int .u8 0, .int .u8 0] 36 (by kernel_rfl)) ?_
        rintro _ W6 ⟨rfl, hb2, ch6, sz2⟩
        have zz6 := ch6.size
        rw [← Mur.attC_zero] at hb2
        refine Wk.rExS 12 none _ rfl rfl (by kernel_rfl) (Mur.storeArr 36 (.tmp 7) (.tmp 33) rfl W5.heap.size (by kernel_rfl) (Mur.attC k1 r1 n1 dd1).toArray 97 (Mur.attC_size hk1 hr1 hdl1) Mur.attC_all (by kernel_rfl) (by kernel_rfl) 36 ((Mur.attC Mur.z32 Mur.z32 0 Mur.z32).toArray) hb2 (Mur.attC_size rfl rfl rfl)) ?_
        rintro W7 ⟨hb3, ch7⟩
        have zz7 := ch7.size
        refine Wk.rPure 13 (some 8) (.int .i64 0) rfl rfl (by kernel_rfl) (by kernel_rfl) ?_
        refine Wk.rEnd 14 rfl ?_
        refine Wk.nxt ?_
        refine wp_seq ?_
        refine wp_seq ?_
        refine Wk.reg ?_
        refine Wk.rPure 0 (some 35) (.int .i64 0) rfl rfl (by kernel_rfl) (by kernel_rfl) ?_
        refine Wk.rPure 1 (some 36) (.bool false) rfl rfl (by kernel_rfl) (Wk.boolF (b := ((0 : Int) != (0 : Int))) (bne_eq_false_iff_eq.2 (by decide)) (by kernel_rfl)) ?_
        refine Wk.rEnd 2 rfl ?_
        refine Wk.nxt ?_
        refine wp_cond_false (by kernel_rfl) ?_
        refine wp_skip ?_
        refine Wk.nxt ?_
        refine wp_seq ?_
        refine Wk.reg ?_
        refine Wk.rPure 0 (some 37) (.pointer (some ⟨w.heap.size, 0, none⟩)) rfl rfl (by kernel_rfl) (by kernel_rfl) ?_
        refine Wk.rPure 1 (some 38) (.agg ((b8s k1).toArray)) rfl rfl (by kernel_rfl) (Wk.loadR 25 (.tmp 37) rfl _ Tryd.underlying25 rfl w.heap.size 0 (by kernel_rfl) (b8s k1) (by rw [Mur.b8s_length, hk1]; kernel_rfl) (Mur.att_key (Wk.Chg.hp ch7 (Wk.Chg.hp ch6 (Wk.Chg.hp ch5 (Wk.Chg.hp ch4 hb1 trivial) trivial) trivial) ⟨by omega, trivial⟩))) ?_
        refine Wk.rPure 2 (some 39) (.pointer (some ⟨w.heap.size, 32, none⟩)) rfl rfl (by kernel_rfl) (by kernel_rfl) ?_
        refine Wk.rPure 3 (some 40) (.agg ((b8s r1).toArray)) rfl rfl (by kernel_rfl) (Wk.loadR 25 (.tmp 39) rfl _ Tryd.underlying25 rfl w.heap.size 32 (by kernel_rfl) (b8s r1) (by rw [Mur.b8s_length, hr1]; kernel_rfl) (Mur.att_root hk1 (Wk.Chg.hp ch7 (Wk.Chg.hp ch6 (Wk.Chg.hp ch5 (Wk.Chg.hp ch4 hb1 trivial) trivial) trivial) ⟨by omega, trivial⟩))) ?_
        refine Wk.rPure 4 (some 41) (.pointer (some ⟨w.heap.size, 64, none⟩)) rfl rfl (by kernel_rfl) (by kernel_rfl) ?_
        refine Wk.rPure 5 (some 42) (.int .i64 n1) rfl rfl (by kernel_rfl) (Wk.load1 3 (.tmp 41) rfl (by kernel_rfl) ⟨w.heap.size, 64, none⟩ (by kernel_rfl) (.int .i64 n1) (Mur.att_len hk1 hr1 (Wk.Chg.hp ch7 (Wk.Chg.hp ch6 (Wk.Chg.hp ch5 (Wk.Chg.hp ch4 hb1 trivial) trivial) trivial) ⟨by omega, trivial⟩))) ?_
        refine Wk.rCall 6 (some 43) 22 [.tmp 38, .tmp 40, .tmp 42] #[25, 25, 3] [.agg ((b8s k1).toArray), .agg ((b8s r1).toArray), .int .i64 n1] rfl rfl (by kernel_rfl) rfl (by kernel_rfl) (by kernel_rfl) ?_
        refine (Rbody_any k1 r1 n1 hk1 hr1 W7).mono ?_
        rintro _ W8 ⟨qb1, cb1, BB1, hBB1, rfl, hbb1, hq1, hq2, ch8⟩
        have zz8 := ch8.size
        have hBt1 : ∀ g off, (some ⟨qb1, 0, none⟩ : Option Addr) = some ⟨g, off, none⟩ → W7.heap.size ≤ g ∧ g < W8.heap.size := fun g off e => by cases e; exact hq1
        refine ⟨_, rfl, ?_⟩
        refine Wk.rPure 7 (some 9) (.slice (some ⟨qb1, 0, none⟩) 73 cb1) rfl rfl (by kernel_rfl) (by kernel_rfl) ?_
        refine Wk.rEnd 8 rfl ?_
        refine Wk.nxt ?_
        refine wp_seq ?_
        refine Wk.reg ?_
        refine Wk.rPure 0 (some 44) (.slice B m2 c2) rfl rfl (by kernel_rfl) (by kernel_rfl) ?_
        refine Wk.rPure 1 (some 45) (.agg ((Mur.attC k1 r1 n1 dd1).toArray)) rfl rfl (by kernel_rfl) (Mur.loadArr 36 (.tmp 7) rfl _ Tryd.underlying36 rfl W5.heap.size (by kernel_rfl) (Mur.attC k1 r1 n1 dd1).toArray 97 (Mur.attC_size hk1 hr1 hdl1) (by kernel_rfl) 36 (0, 0) (Wk.Chg.hp ch8 hb3 trivial)) ?_
        refine Wk.rCall 2 (some 46) 20 [.tmp 44, .tmp 45] #[22, 36] [.slice B m2 c2, .agg ((Mur.attC k1 r1 n1 dd1).toArray)] rfl rfl (by kernel_rfl) rfl (by kernel_rfl) (by kernel_rfl) ?_
        have kk7 := Wk.Chg.step kk6 ch5 trivial
        have kk8 := Wk.Chg.step kk7 ch6 trivial
        have kk9 := Wk.Chg.step kk8 ch7 ⟨.inr (by omega), trivial⟩
        have kk10 := Wk.Chg.step kk9 ch8 trivial
        refine (Right_any s2 B m2 c2 k1 r1 dd1 n1 hk1 hr1 hdl1 W8 (HV.out.below (Wk.Chg.below0 kk10)) (Mur.byt_chg HB2.out kk10 (fun g off e hl => trivial)) (by omega) HA2.out (by omega)).mono ?_
        rintro _ W9 ⟨dr1, hd2, rfl, ch9⟩
        have zz9 := ch9.size
        by_cases hteq1 : dd1 = dr1
        · rw [decide_eq_true (⟨hmay1, hteq1⟩ : Mur.may n1 ∧ dd1 = dr1)]
          refine ⟨_, rfl, ?_⟩
          refine Wk.rPure 3 (some 47) (.slice A m c) rfl rfl (by kernel_rfl) (by kernel_rfl) ?_
          refine Wk.rPure 4 (some 48) (.slice (some ⟨qb1, 0, none⟩) 73 cb1) rfl rfl (by kernel_rfl) (by kernel_rfl) ?_
          refine Wk.rCall 5 (some 49) 14 [.tmp 47, .tmp 48] #[22, 22] [.slice A m c, .slice (some ⟨qb1, 0, none⟩) 73 cb1] rfl rfl (by kernel_rfl) rfl (by kernel_rfl) (by kernel_rfl) ?_
          have kk11 := Wk.Chg.step kk10 ch9 trivial
          refine (Rtag_any s A m c BB1 (some ⟨qb1, 0, none⟩) 73 cb1 W9 (Mur.byt_chg HBY.out kk11 (fun g off e hl => trivial)) (by omega) HA.out (by omega) (Mur.byt_chg hbb1 ch9 (fun g off e hl => trivial)) (fun h => by cases h) (by omega)).mono ?_
          rintro _ W10 ⟨dd2, hd3, hdl2, rfl, ch10⟩
          have zz10 := ch10.size
          refine ⟨_, rfl, ?_⟩
          refine Wk.rPure 6 (some 50) (.slice B m2 c2) rfl rfl (by kernel_rfl) (by kernel_rfl) ?_
          refine Wk.rPure 7 (some 51) (.slice (some ⟨qb1, 0, none⟩) 73 cb1) rfl rfl (by kernel_rfl) (by kernel_rfl) ?_
          refine Wk.rCall 8 (some 52) 14 [.tmp 50, .tmp 51] #[22, 22] [.slice B m2 c2, .slice (some ⟨qb1, 0, none⟩) 73 cb1] rfl rfl (by kernel_rfl) rfl (by kernel_rfl) (by kernel_rfl) ?_
          have kk12 := Wk.Chg.step kk11 ch10 trivial
          refine (Rtag_any s2 B m2 c2 BB1 (some ⟨qb1, 0, none⟩) 73 cb1 W10 (Mur.byt_chg HB2.out kk12 (fun g off e hl => trivial)) (by omega) HA2.out (by omega) (Mur.byt_chg (Mur.byt_chg hbb1 ch9 (fun g off e hl => trivial)) ch10 (fun g off e hl => trivial)) (fun h => by cases h) (by omega)).mono ?_
          rintro _ W11 ⟨dd3, hd4, hdl3, rfl, ch11⟩
          have zz11 := ch11.size
          refine ⟨_, rfl, ?_⟩
          refine Wk.rPure 9 (some 53) (.bool true) rfl rfl (by kernel_rfl) (Mur.run_eql_yes digT dd2 dd3 hdl2 hdl3 ((hd3.out.trans ((congrArg _ hBB1.out).trans hd1.out.symm)).trans (hteq1.trans (hd4.out.trans ((congrArg _ hBB1.out).trans hd2.out.symm)).symm)) _ (.tmp 49) (.tmp 52) 25 rfl (by kernel_rfl) (by kernel_rfl)) ?_
          refine Wk.rPure 10 (some 54) (.bool true) rfl rfl (by kernel_rfl) (by kernel_rfl) ?_
          refine Wk.rPure 11 (some 55) (.bool true) rfl rfl (by kernel_rfl) (by kernel_rfl) ?_
          refine Wk.rCall 12 (some 56) 17 [] #[] [] rfl rfl (by kernel_rfl) rfl (by kernel_rfl) (by kernel_rfl) ?_
          have kk13 := Wk.Chg.step kk12 ch11 trivial
          refine (known9_any W11 (HV.out.below (Wk.Chg.below0 kk13))).mono ?_
          rintro _ W12 ⟨rfl, ch12⟩
          have zz12 := ch12.size
          refine ⟨_, rfl, ?_⟩
          refine Wk.rPure 13 (some 57) (.bool true) rfl rfl (by kernel_rfl) (by kernel_rfl) ?_
          refine Wk.rPure 14 (some 6) (.bool true) rfl rfl (by kernel_rfl) (by kernel_rfl) ?_
          refine Wk.rEnd 15 rfl ?_
          refine Wk.nxt ?_
          refine wp_ret ?_
          have kk14 := Wk.Chg.step kk13 ch12 trivial
          refine Wk.ret (.bool true) rfl (by kernel_rfl) ?_
          exact ⟨rfl, Wk.Chg.below0 kk14⟩
        · rw [decide_eq_false (fun q => hteq1 q.2 : ¬ (Mur.may n1 ∧ dd1 = dr1))]
          refine ⟨_, rfl, ?_⟩
          refine Wk.rPure 3 (some 47) (.slice A m c) rfl rfl (by kernel_rfl) (by kernel_rfl) ?_
          refine Wk.rPure 4 (some 48) (.slice (some ⟨qb1, 0, none⟩) 73 cb1) rfl rfl (by kernel_rfl) (by kernel_rfl) ?_
          refine Wk.rCall 5 (some 49) 14 [.tmp 47, .tmp 48] #[22, 22] [.slice A m c, .slice (some ⟨qb1, 0, none⟩) 73 cb1] rfl rfl (by kernel_rfl) rfl (by kernel_rfl) (by kernel_rfl) ?_
          have kk15 := Wk.Chg.step kk10 ch9 trivial
          refine (Rtag_any s A m c BB1 (some ⟨qb1, 0, none⟩) 73 cb1 W9 (Mur.byt_chg HBY.out kk15 (fun g off e hl => trivial)) (by omega) HA.out (by omega) (Mur.byt_chg hbb1 ch9 (fun g off e hl => trivial)) (fun h => by cases h) (by omega)).mono ?_
          rintro _ W13 ⟨dd4, hd5, hdl4, rfl, ch13⟩
          have zz13 := ch13.size
          refine ⟨_, rfl, ?_⟩
          refine Wk.rPure 6 (some 50) (.slice B m2 c2) rfl rfl (by kernel_rfl) (by kernel_rfl) ?_
          refine Wk.rPure 7 (some 51) (.slice (some ⟨qb1, 0, none⟩) 73 cb1) rfl rfl (by kernel_rfl) (by kernel_rfl) ?_
          refine Wk.rCall 8 (some 52) 14 [.tmp 50, .tmp 51] #[22, 22] [.slice B m2 c2, .slice (some ⟨qb1, 0, none⟩) 73 cb1] rfl rfl (by kernel_rfl) rfl (by kernel_rfl) (by kernel_rfl) ?_
          have kk16 := Wk.Chg.step kk15 ch13 trivial
          refine (Rtag_any s2 B m2 c2 BB1 (some ⟨qb1, 0, none⟩) 73 cb1 W13 (Mur.byt_chg HB2.out kk16 (fun g off e hl => trivial)) (by omega) HA2.out (by omega) (Mur.byt_chg (Mur.byt_chg hbb1 ch9 (fun g off e hl => trivial)) ch13 (fun g off e hl => trivial)) (fun h => by cases h) (by omega)).mono ?_
          rintro _ W14 ⟨dd5, hd6, hdl5, rfl, ch14⟩
          have zz14 := ch14.size
          refine ⟨_, rfl, ?_⟩
          refine Wk.rPure 9 (some 53) (.bool false) rfl rfl (by kernel_rfl) (Mur.run_eql_no digT dd4 dd5 hdl4 hdl5 (fun z => hteq1 ((hd5.out.trans ((congrArg _ hBB1.out).trans hd1.out.symm)).symm.trans (z.trans (hd6.out.trans ((congrArg _ hBB1.out).trans hd2.out.symm))))) _ (.tmp 49) (.tmp 52) 25 rfl (by kernel_rfl) (by kernel_rfl)) ?_
          refine Wk.rPure 10 (some 54) (.bool true) rfl rfl (by kernel_rfl) (by kernel_rfl) ?_
          refine Wk.rPure 11 (some 55) (.bool true) rfl rfl (by kernel_rfl) (by kernel_rfl) ?_
          refine Wk.rCall 12 (some 56) 17 [] #[] [] rfl rfl (by kernel_rfl) rfl (by kernel_rfl) (by kernel_rfl) ?_
          have kk17 := Wk.Chg.step kk16 ch14 trivial
          refine (known9_any W14 (HV.out.below (Wk.Chg.below0 kk17))).mono ?_
          rintro _ W15 ⟨rfl, ch15⟩
          have zz15 := ch15.size
          refine ⟨_, rfl, ?_⟩
          refine Wk.rPure 13 (some 57) (.bool true) rfl rfl (by kernel_rfl) (by kernel_rfl) ?_
          refine Wk.rPure 14 (some 6) (.bool true) rfl rfl (by kernel_rfl) (by kernel_rfl) ?_
          refine Wk.rEnd 15 rfl ?_
          refine Wk.nxt ?_
          refine wp_ret ?_
          have kk18 := Wk.Chg.step kk17 ch15 trivial
          refine Wk.ret (.bool true) rfl (by kernel_rfl) ?_
          exact ⟨rfl, Wk.Chg.below0 kk18⟩
      · have hmay1u : ¬ (1 ≤ n1 ∧ n1 ≤ 5000) := hmay1
        refine (Rmay_any k1 r1 t1 n1 hk1 hr1 ht1 W1).mono ?_
        rw [decide_eq_false (hmay1 : ¬ Mur.may n1)]
        rintro _ W4 ⟨rfl, ch4⟩
        have zz16 := ch4.size
        refine ⟨_, rfl, ?_⟩
        refine Wk.rPure 11 (some 21) (.bool true) rfl rfl (by kernel_rfl) (by kernel_rfl) ?_
        refine Wk.rPure 12 (some 22) (.bool true) rfl rfl (by kernel_rfl) (by kernel_rfl) ?_
        refine Wk.rEnd 13 rfl ?_
        refine Wk.nxt ?_
        refine wp_cond_true (by kernel_rfl) ?_
        refine wp_seq ?_
        refine Wk.reg ?_
        refine Wk.rCall 0 (some 23) 17 [] #[] [] rfl rfl (by kernel_rfl) rfl (by kernel_rfl) (by kernel_rfl) ?_
        have kk19 : Wk.Chg [] w W1 := Wk.Chg.step ((Wk.Chg.refl _).more (by simp)) ch1 trivial
        have kk20 := Wk.Chg.step kk19 ch4 trivial
        refine (known9_any W4 (HV.out.below (Wk.Chg.below0 kk20))).mono ?_
        rintro _ W16 ⟨rfl, ch16⟩
        have zz17 := ch16.size
        refine ⟨_, rfl, ?_⟩
        refine Wk.rPure 1 (some 6) (.bool true) rfl rfl (by kernel_rfl) (by kernel_rfl) ?_
        refine Wk.rEnd 2 rfl ?_
        refine Wk.nxt ?_
        refine wp_ret ?_
        refine Wk.thR ?_
        have kk21 := Wk.Chg.step kk20 ch16 trivial
        refine Wk.ret (.bool true) rfl (by kernel_rfl) ?_
        exact ⟨rfl, Wk.Chg.below0 kk21⟩
end Go.Proofs.YtljfjjofhclhiaaDoor
