/- AttestMakes, walked. -/
import Derived.Test.YtljfjjofhclhiaaDoorAtD
namespace Go.Proofs.YtljfjjofhclhiaaDoor
open Go.RowKit
open Mur (b8s Byt Own8 Seg Segs flat cutA attC)
set_option maxRecDepth 100000
set_option maxHeartbeats 4000000
theorem makes_any (s : List UInt8) (A : Option Addr) (m c : Nat) (k r : List UInt8) (n : Int) (hk : k.length = 32) (hr : r.length = 32) (hwn : (Lit.int .i64 n).wf = true) (w : World) (hv : ShaVars w) (hb : Byt w A m s) (hnc : m ≤ c) (ha : A = none → c = 0) : Calls Tryd.prog 6 #[.slice A m c, .agg (b8s k).toArray, .agg (b8s r).toArray, .int .i64 n] w fun e w' => e = .returned (.bool true) ∧ Below w.heap.size w w' := by
  have HV := Go.Lib.hid hv
  clear hv
  have HBY := Go.Lib.hid hb
  clear hb
  have HA := Go.Lib.hid ha
  clear ha
  refine calls_of_wp Tryd.func6 rfl ?_
  refine wp_seq ?_
  refine Wk.reg ?_
  refine Wk.rEx 0 (some 5) _ rfl rfl (by kernel_rfl) (Wk.new_ex (.pointer (some ⟨w.heap.size, 0, none⟩)) ((b8s k).toArray) 25 (by kernel_rfl)) ?_
  rintro _ W1 ⟨rfl, hb1, ch1, sz1⟩
  have zz1 := ch1.size
  refine Wk.rEx 1 (some 6) _ rfl rfl (by kernel_rfl) (Wk.new_ex (.pointer (some ⟨W1.heap.size, 0, none⟩)) ((b8s r).toArray) 25 (by kernel_rfl)) ?_
  rintro _ W2 ⟨rfl, hb2, ch2, sz2⟩
  have zz2 := ch2.size
  refine Wk.rPure 2 (some 8) (.bool false) rfl rfl (by kernel_rfl) (by kernel_rfl) ?_
  refine Wk.rEnd 3 rfl ?_
  refine Wk.nxt ?_
  refine wp_seq ?_
  refine wp_seq ?_
  refine Wk.reg ?_
  refine Wk.rPure 0 (some 12) (.slice A m c) rfl rfl (by kernel_rfl) (by kernel_rfl) ?_
  refine Wk.rPure 1 (some 13) (.int .i64 ((m : Nat) : Int)) rfl rfl (by kernel_rfl) (by kernel_rfl) ?_
  by_cases hx1 : ((m : Nat) : Int) > (300 : Int)
  · refine Wk.rPure 2 (some 14) (.bool true) rfl rfl (by kernel_rfl) (Wk.boolT (b := decide (((m : Nat) : Int) > (300 : Int))) (decide_eq_true (by first | exact hx1 | omega)) (by kernel_rfl)) ?_
    refine Wk.rEnd 3 rfl ?_
    refine Wk.nxt ?_
    refine wp_cond_true (by kernel_rfl) ?_
    refine wp_seq ?_
    refine Wk.reg ?_
    refine Wk.rCall 0 (some 15) 17 [] #[] [] rfl rfl (by kernel_rfl) rfl (by kernel_rfl) (by kernel_rfl) ?_
    have kk1 : Wk.Chg [] w W1 := Wk.Chg.step ((Wk.Chg.refl _).more (by simp)) ch1 trivial
    have kk2 := Wk.Chg.step kk1 ch2 trivial
    refine (known9_any W2 (HV.out.below (Wk.Chg.below0 kk2))).mono ?_
    rintro _ W3 ⟨rfl, ch3⟩
    have zz3 := ch3.size
    refine ⟨_, rfl, ?_⟩
    refine Wk.rPure 1 (some 8) (.bool true) rfl rfl (by kernel_rfl) (by kernel_rfl) ?_
    refine Wk.rEnd 2 rfl ?_
    refine Wk.nxt ?_
    refine wp_ret ?_
    refine Wk.thR ?_
    have kk3 := Wk.Chg.step kk2 ch3 trivial
    refine Wk.ret (.bool true) rfl (by kernel_rfl) ?_
    exact ⟨rfl, Wk.Chg.below0 kk3⟩
  · refine Wk.rPure 2 (some 14) (.bool false) rfl rfl (by kernel_rfl) (Wk.boolF (b := decide (((m : Nat) : Int) > (300 : Int))) (decide_eq_false (by first | exact hx1 | omega)) (by kernel_rfl)) ?_
    refine Wk.rEnd 3 rfl ?_
    refine Wk.nxt ?_
    refine wp_cond_false (by kernel_rfl) ?_
    refine wp_skip ?_
    refine Wk.nxt ?_
    refine wp_seq ?_
    refine Wk.reg ?_
    refine Wk.rEx 0 (some 16) _ rfl rfl (by kernel_rfl) (Wk.new_ex (.slice (some ⟨W2.heap.size, 0, none⟩) 0 0) #[] 5 (by kernel_rfl)) ?_
    rintro _ W4 ⟨rfl, hb3, ch4, sz3⟩
    have zz4 := ch4.size
    refine Wk.rPure 1 (some 17) (.slice A m c) rfl rfl (by kernel_rfl) (by kernel_rfl) ?_
    have ow1 := Mur.own8_empty hb3 (Nat.le_refl _)
    have kk4 : Wk.Chg [] w W1 := Wk.Chg.step ((Wk.Chg.refl _).more (by simp)) ch1 trivial
    have kk5 := Wk.Chg.step kk4 ch2 trivial
    have kk6 := Wk.Chg.step kk5 ch4 trivial
    refine Wk.rEx 2 (some 18) _ rfl rfl (by kernel_rfl) (Mur.append8 (.tmp 16) (.tmp 17) 22 5 rfl Tryd.underlying22 (by kernel_rfl) W2.heap.size (some ⟨W2.heap.size, 0, none⟩) 0 0 ([]) A m c s (by kernel_rfl) (by kernel_rfl) ow1.own (Mur.byt_chg HBY.out kk6 (fun g off e hl => trivial)) HA.out (by omega) (by omega) m (by omega) s rfl) ?_
    rintro _ W5 ⟨AA1, nn1, rfl, ow2, ch5, ha1⟩
    have zz5 := ch5.size
    have hq1 := ow2.nc
    have hq2 := ow2.cm
    refine Wk.rPure 3 (some 9) (.slice AA1 m nn1) rfl rfl (by kernel_rfl) (by kernel_rfl) ?_
    refine Wk.rEnd 4 rfl ?_
    refine Wk.nxt ?_
    refine wp_seq ?_
    refine Wk.reg ?_
    refine Wk.rPure 0 (some 20) (.slice AA1 m nn1) rfl rfl (by kernel_rfl) (by kernel_rfl) ?_
    refine Wk.rPure 1 (some 21) (.agg ((b8s k).toArray)) rfl rfl (by kernel_rfl) (Mur.loadAll 25 (.tmp 5) rfl _ Tryd.underlying25 rfl w.heap.size (by kernel_rfl) k 32 hk (by kernel_rfl) 25 (0, 0) (Wk.Chg.hp ch5 (Wk.Chg.hp ch4 (Wk.Chg.hp ch2 hb1 trivial) trivial) (Wk.off_blk (fun gz hgz => by have := ow1.lt gz hgz; omega)))) ?_
    refine Wk.rPure 2 (some 22) (.agg ((b8s r).toArray)) rfl rfl (by kernel_rfl) (Mur.loadAll 25 (.tmp 6) rfl _ Tryd.underlying25 rfl W1.heap.size (by kernel_rfl) r 32 hr (by kernel_rfl) 25 (0, 0) (Wk.Chg.hp ch5 (Wk.Chg.hp ch4 hb2 trivial) (Wk.off_blk (fun gz hgz => by have := ow1.lt gz hgz; omega)))) ?_
    refine Wk.rPure 3 (some 23) (.int .i64 n) rfl rfl (by kernel_rfl) (by kernel_rfl) ?_
    refine Wk.rCall 4 (some 24) 18 [.tmp 20, .tmp 21, .tmp 22, .tmp 23] #[22, 25, 25, 3] [.slice AA1 m nn1, .agg ((b8s k).toArray), .agg ((b8s r).toArray), .int .i64 n] rfl rfl (by kernel_rfl) rfl (by kernel_rfl) (by kernel_rfl) ?_
    by_cases hmay1 : Mur.may n
    · have hmay1u : (1 ≤ n ∧ n ≤ 5000) := hmay1
      have kk7 := Wk.Chg.step kk6 ch5 (Wk.newOr_blk (fun g hg => by have := ow1.lt g hg; omega))
      refine (Make_ok s AA1 m nn1 k r n hk hr W5 (HV.out.below (Wk.Chg.below0 kk7)) ow2.byt (by omega) ow2.nil (by omega) hmay1).mono ?_
      rintro _ W6 ⟨dd1, hd1, hdl1, rfl, ch6⟩
      have zz6 := ch6.size
      refine ⟨_, rfl, ?_⟩
      refine Wk.rPure 5 (some 19) (.tuple #[.agg ((Mur.attC k r n dd1).toArray), .int .i64 0]) rfl rfl (by kernel_rfl) (by kernel_rfl) ?_
      refine Wk.rPure 6 (some 25) (.agg ((Mur.attC k r n dd1).toArray)) rfl rfl (by kernel_rfl) (by kernel_rfl) ?_
      refine Wk.rPure 7 (some 26) (.int .i64 0) rfl rfl (by kernel_rfl) (by kernel_rfl) ?_
      refine Wk.rEx 8 (some 10) _ rfl rfl (by kernel_rfl) (Wk.new_ex (.pointer (some ⟨W6.heap.size, 0, none⟩)) #[.int .u8 0, .int .u8 0, .int .u8 0, .int .u8 0, .int .u8 0, .int .u8 0, .int .u8 0, .int .u8 0, .int .u8 0, .int .u8 0, .int .u8 0, .int .u8 0, .int .u8 0, .int .u8 0, .int .u8 0, .int .u8 0, .int .u8 0, .int .u8 0, .int .u8 0, .int .u8 0, .int .u8 0, .int .u8 0, .int .u8 0, .int .u8 0, .int .u8 0, .int .u8 0, .int .u8 0, .int .u8 0, .int .u8 0, .int .u8 0, .int .u8 0, .int .u8 0, .int .u8 0, .int .u8 0, .int .u8 0, .int .u8 0, .int .u8 0, .int .u8 0, .int .u8 0, .int .u8 0, .int .u8 0, .int .u8 0, .int .u8 0, .int .u8 0, .int .u8 0, .int .u8 0, .int .u8 0, .int .u8 0, .int .u8 0, .int .u8 0, .int .u8 0, .int .u8 0, .int .u8 0, .int .u8 0, .int .u8 0, .int .u8 0, .int .u8 0, .int .u8 0, .int .u8 0, .int .u8 0, .int .u8 0, .int .u8 0, .int .u8 0, .int .u8 0, .int .i64 0, .int .u8 0, .int .u8 0, .int .u8 0, .int .u8 0, .int .u8 0, .int .u8 0, .int .u8 0, .int .u8 0, .int .u8 0, .int .u8 0, .int .u8 0, .int .u8 0, .int .u8 0, .int .u8 0, .int .u8 0, .int .u8 0, .int .u8 0, .int .u8 0, .int .u8 0, .int .u8 0, .int .u8 0, .int .u8 0, .int .u8 0, .int .u8 0, .int .u8 0, .int .u8 0, .int .u8 0, .int .u8 0, .int .u8 0, .int .u8 0, .int .u8 0, .int .u8 0] 36 (by kernel_rfl)) ?_
      rintro _ W7 ⟨rfl, hb4, ch7, sz4⟩
      have zz7 := ch7.size
      rw [← Mur.attC_zero] at hb4
      refine Wk.rExS 9 none _ rfl rfl (by kernel_rfl) (Mur.storeArr 36 (.tmp 10) (.tmp 25) rfl W6.heap.size (by kernel_rfl) (Mur.attC k r n dd1).toArray 97 (Mur.attC_size hk hr hdl1) Mur.attC_all (by kernel_rfl) (by kernel_rfl) 36 ((Mur.attC Mur.z32 Mur.z32 0 Mur.z32).toArray) hb4 (Mur.attC_size rfl rfl rfl)) ?_
      rintro W8 ⟨hb5, ch8⟩
      have zz8 := ch8.size
      refine Wk.rPure 10 (some 11) (.int .i64 0) rfl rfl (by kernel_rfl) (by kernel_rfl) ?_
      refine Wk.rEnd 11 rfl ?_
      refine Wk.nxt ?_
      refine wp_seq ?_
      refine wp_seq ?_
      refine Wk.reg ?_
      refine Wk.rPure 0 (some 27) (.int .i64 n) rfl rfl (by kernel_rfl) (by kernel_rfl) ?_
      refine Wk.rPure 1 (some 28) (.bool false) rfl rfl (by kernel_rfl) (Wk.boolF (b := decide (n < (1 : Int))) (decide_eq_false (by omega)) (by kernel_rfl)) ?_
      refine Wk.rPure 2 (some 29) (.bool false) rfl rfl (by kernel_rfl) (by kernel_rfl) ?_
      refine Wk.rPure 3 (some 30) (.int .i64 n) rfl rfl (by kernel_rfl) (by kernel_rfl) ?_
      refine Wk.rPure 4 (some 31) (.bool false) rfl rfl (by kernel_rfl) (Wk.boolF (b := decide (n > (5000 : Int))) (decide_eq_false (by omega)) (by kernel_rfl)) ?_
      refine Wk.rPure 5 (some 32) (.bool false) rfl rfl (by kernel_rfl) (by kernel_rfl) ?_
      refine Wk.rEnd 6 rfl ?_
      refine Wk.nxt ?_
      refine wp_cond_false (by kernel_rfl) ?_
      refine wp_skip ?_
      refine Wk.nxt ?_
      refine wp_seq ?_
      refine Wk.dReg ([]) (by kernel_rfl) ?_
      intro W9 ch9 sz5
      have zz9 := ch9.size
      have sS1 : Wk.Chg ([]) W9 W9 := (Wk.Chg.refl _).more (by simp)
      refine Wk.dVal 0 (some 43) (.int .i64 0) rfl rfl (by kernel_rfl) (by kernel_rfl) (by kernel_rfl) (fun _ _ _ h => h) (by kernel_rfl) (fun w' hw' => by kernel_rfl) sS1 ?_
      refine Wk.dVal 1 (some 44) (.bool true) rfl rfl (by kernel_rfl) (by kernel_rfl) (by kernel_rfl) (fun _ _ _ h => h) (by kernel_rfl) (fun w' hw' => (Wk.boolT (b := ((0 : Int) == (0 : Int))) (beq_iff_eq.2 (by decide)) (by kernel_rfl))) sS1 ?_
      refine Wk.dVal 2 (some 45) (.bool true) rfl rfl (by kernel_rfl) (by kernel_rfl) (by kernel_rfl) (fun _ _ _ h => h) (by kernel_rfl) (fun w' hw' => by kernel_rfl) sS1 ?_
      refine Wk.dVal 3 (some 46) (.agg ((Mur.attC k r n dd1).toArray)) rfl rfl (by kernel_rfl) (by kernel_rfl) (by kernel_rfl) (fun _ _ _ h => h) (by kernel_rfl) (fun w' hw' => (Mur.loadArr 36 (.tmp 10) rfl _ Tryd.underlying36 rfl W6.heap.size (by kernel_rfl) (Mur.attC k r n dd1).toArray 97 (Mur.attC_size hk hr hdl1) (by kernel_rfl) 36 (0, 0) (Wk.Chg.hp hw' (Wk.Chg.hp ch9 hb5 trivial) trivial))) sS1 ?_
      refine Wk.dVal 4 (some 47) (.slice A m c) rfl rfl (by kernel_rfl) (by kernel_rfl) (by kernel_rfl) (fun _ _ _ h => h) (by kernel_rfl) (fun w' hw' => by kernel_rfl) sS1 ?_
      refine Wk.dVal 5 (some 48) (.agg ((b8s k).toArray)) rfl rfl (by kernel_rfl) (by kernel_rfl) (by kernel_rfl) (fun _ _ _ h => h) (by kernel_rfl) (fun w' hw' => (Mur.loadAll 25 (.tmp 5) rfl _ Tryd.underlying25 rfl w.heap.size (by kernel_rfl) k 32 hk (by kernel_rfl) 25 (0, 0) (Wk.Chg.hp hw' (Wk.Chg.hp ch9 (Wk.Chg.hp ch8 (Wk.Chg.hp ch7 (Wk.Chg.hp ch6 (Wk.Chg.hp ch5 (Wk.Chg.hp ch4 (Wk.Chg.hp ch2 hb1 trivial) trivial) (Wk.off_blk (fun gz hgz => by have := ow1.lt gz hgz; omega))) trivial) trivial) ⟨by omega, trivial⟩) trivial) trivial))) sS1 ?_
      refine Wk.dVal 6 (some 49) (.agg ((b8s r).toArray)) rfl rfl (by kernel_rfl) (by kernel_rfl) (by kernel_rfl) (fun _ _ _ h => h) (by kernel_rfl) (fun w' hw' => (Mur.loadAll 25 (.tmp 6) rfl _ Tryd.underlying25 rfl W1.heap.size (by kernel_rfl) r 32 hr (by kernel_rfl) 25 (0, 0) (Wk.Chg.hp hw' (Wk.Chg.hp ch9 (Wk.Chg.hp ch8 (Wk.Chg.hp ch7 (Wk.Chg.hp ch6 (Wk.Chg.hp ch5 (Wk.Chg.hp ch4 hb2 trivial) (Wk.off_blk (fun gz hgz => by have := ow1.lt gz hgz; omega))) trivial) trivial) ⟨by omega, trivial⟩) trivial) trivial))) sS1 ?_
      refine Wk.dVal 7 (some 50) (.int .i64 n) rfl rfl (by kernel_rfl) (by kernel_rfl) (by kernel_rfl) (fun _ _ _ h => h) (by kernel_rfl) (fun w' hw' => by kernel_rfl) sS1 ?_
      refine Wk.dOp 8 (by kernel_rfl) ?_
      refine Wk.oCall (some 51) 19 [.tmp 47, .tmp 48, .tmp 49, .tmp 50] #[22, 25, 25, 3] [.slice A m c, .agg ((b8s k).toArray), .agg ((b8s r).toArray), .int .i64 n] rfl rfl (by kernel_rfl) rfl (by kernel_rfl) (by kernel_rfl) ?_
      have kk8 := Wk.Chg.step kk7 ch6 trivial
      have kk9 := Wk.Chg.step kk8 ch7 trivial
      have kk10 := Wk.Chg.step kk9 ch8 ⟨.inr (by omega), trivial⟩
      have kk11 := Wk.Chg.step kk10 ch9 trivial
      refine (Rmake_any s A m c k r n hk hr W9 (Mur.byt_chg HBY.out kk11 (fun g off e hl => trivial)) (by omega) HA.out (by omega)).mono ?_
      rintro _ W10 ⟨dd2, hd2, hdl2, rfl, ch10⟩
      have zz10 := ch10.size
      have sS2 := Wk.Chg.step sS1 ch10 trivial
      refine ⟨_, rfl, sS2, ?_⟩
      refine Wk.dVal 9 (some 52) (.bool true) rfl rfl (by kernel_rfl) (by kernel_rfl) (by kernel_rfl) (fun _ _ _ h => h) (by kernel_rfl) (fun w' hw' => (Wk.boolT (b := decide (k = k ∧ r = r ∧ n = n ∧ dd1 = dd2)) (decide_eq_true (⟨rfl, rfl, rfl, hd1.out.trans hd2.out.symm⟩)) (run_eql_att (.tmp 46) (.tmp 51) 36 rfl hk hr hdl1 hk hr hdl2 hwn hwn (by kernel_rfl) (by kernel_rfl)))) sS2 ?_
      refine Wk.dVal 10 (some 53) (.bool true) rfl rfl (by kernel_rfl) (by kernel_rfl) (by kernel_rfl) (fun _ _ _ h => h) (by kernel_rfl) (fun w' hw' => by kernel_rfl) sS2 ?_
      refine Wk.dVal 11 (some 54) (.bool true) rfl rfl (by kernel_rfl) (by kernel_rfl) (by kernel_rfl) (fun _ _ _ h => h) (by kernel_rfl) (fun w' hw' => by kernel_rfl) sS2 ?_
      refine Wk.dVal 12 (some 55) (.slice AA1 m nn1) rfl rfl (by kernel_rfl) (by kernel_rfl) (by kernel_rfl) (fun _ _ _ h => h) (by kernel_rfl) (fun w' hw' => by kernel_rfl) sS2 ?_
      refine Wk.dVal 13 (some 56) (.agg ((Mur.attC k r n dd1).toArray)) rfl rfl (by kernel_rfl) (by kernel_rfl) (by kernel_rfl) (fun _ _ _ h => h) (by kernel_rfl) (fun w' hw' => (Mur.loadArr 36 (.tmp 10) rfl _ Tryd.underlying36 rfl W6.heap.size (by kernel_rfl) (Mur.attC k r n dd1).toArray 97 (Mur.attC_size hk hr hdl1) (by kernel_rfl) 36 (0, 0) (Wk.Chg.hp hw' (Wk.Chg.hp ch9 hb5 trivial) trivial))) sS2 ?_
      refine Wk.dOp 14 (by kernel_rfl) ?_
      refine Wk.oCall (some 57) 20 [.tmp 55, .tmp 56] #[22, 36] [.slice AA1 m nn1, .agg ((Mur.attC k r n dd1).toArray)] rfl rfl (by kernel_rfl) rfl (by kernel_rfl) (by kernel_rfl) ?_
      have ow3 := Mur.own8 (Wk.own_chg ow2.own ch6 (fun q e _ _ => trivial))
      have ow4 := Mur.own8 (Wk.own_chg ow3.own ch7 (fun q e _ _ => trivial))
      have ow5 := Mur.own8 (Wk.own_chg ow4.own ch8 (fun q e _ _ => ⟨by have := ow2.lt q e; omega, trivial⟩))
      have ow6 := Mur.own8 (Wk.own_chg ow5.own ch9 (fun q e _ _ => trivial))
      have ow7 := Mur.own8 (Wk.own_chg ow6.own ch10 (fun q e _ _ => trivial))
      have kk12 := Wk.Chg.step kk11 ch10 trivial
      refine (Right_any s AA1 m nn1 k r dd1 n hk hr hdl1 W10 (HV.out.below (Wk.Chg.below0 kk12)) ow7.byt (by omega) ow7.nil (by omega)).mono ?_
      rintro _ W11 ⟨dr1, hd3, rfl, ch11⟩
      have zz11 := ch11.size
      rw [decide_eq_true (⟨hmay1, hd1.out.trans hd3.out.symm⟩ : Mur.may n ∧ dd1 = dr1)]
      have sS3 := Wk.Chg.step sS2 ch11 trivial
      refine ⟨_, rfl, sS3, ?_⟩
      refine Wk.dVal 15 (some 58) (.bool true) rfl rfl (by kernel_rfl) (by kernel_rfl) (by kernel_rfl) (fun _ _ _ h => h) (by kernel_rfl) (fun w' hw' => by kernel_rfl) sS3 ?_
      refine Wk.dVal 16 (some 59) (.bool true) rfl rfl (by kernel_rfl) (by kernel_rfl) (by kernel_rfl) (fun _ _ _ h => h) (by kernel_rfl) (fun w' hw' => by kernel_rfl) sS3 ?_
      refine Wk.dVal 17 (some 60) (.slice AA1 m nn1) rfl rfl (by kernel_rfl) (by kernel_rfl) (by kernel_rfl) (fun _ _ _ h => h) (by kernel_rfl) (fun w' hw' => by kernel_rfl) sS3 ?_
      refine Wk.dVal 19 (some 62) (.slice A m c) rfl rfl (by kernel_rfl) (by kernel_rfl) (by kernel_rfl) (fun _ _ _ h => h) (by kernel_rfl) (fun w' hw' => by kernel_rfl) sS3 ?_
      refine Wk.dOp2 18 20 (by kernel_rfl) ?_ ?_
      · have ow8 := Mur.own8 (Wk.own_chg ow7.own ch11 (fun q e _ _ => trivial))
        refine Wk.oVal (some 61) (.string (Mur.str s)) rfl rfl (by kernel_rfl) (Mur.run_str 22 9 (.tmp 60) 5 rfl Tryd.underlying22 Tryd.underlying5 Tryd.underlying9 AA1 m nn1 s (by kernel_rfl) ow8.byt) ?_
        refine ⟨sS3, ?_⟩
        refine Wk.dOp 20 (by kernel_rfl) ?_
        have kk13 := Wk.Chg.step kk12 ch11 trivial
        refine Wk.oVal (some 63) (.string (Mur.str s)) rfl rfl (by kernel_rfl) (Mur.run_str 22 9 (.tmp 62) 5 rfl Tryd.underlying22 Tryd.underlying5 Tryd.underlying9 A m c s (by kernel_rfl) (Mur.byt_chg HBY.out kk13 (fun g off e hl => trivial))) ?_
        refine ⟨sS3, ?_⟩
        refine Wk.dVal 21 (some 64) (.bool true) rfl rfl (by kernel_rfl) (by kernel_rfl) (by kernel_rfl) (fun _ _ _ h => h) (by kernel_rfl) (fun w' hw' => (Wk.boolT (b := decide (s = s)) (decide_eq_true (rfl)) (Mur.streq 9 9 (.tmp 61) (.tmp 63) rfl s s (by kernel_rfl) (by kernel_rfl)))) sS3 ?_
        refine Wk.dVal 22 (some 65) (.bool true) rfl rfl (by kernel_rfl) (by kernel_rfl) (by kernel_rfl) (fun _ _ _ h => h) (by kernel_rfl) (fun w' hw' => by kernel_rfl) sS3 ?_
        refine Wk.dVal 23 (some 66) (.bool true) rfl rfl (by kernel_rfl) (by kernel_rfl) (by kernel_rfl) (fun _ _ _ h => h) (by kernel_rfl) (fun w' hw' => by kernel_rfl) sS3 ?_
        refine Wk.dOp 24 (by kernel_rfl) ?_
        refine Wk.oCall (some 67) 17 [] #[] [] rfl rfl (by kernel_rfl) rfl (by kernel_rfl) (by kernel_rfl) ?_
        refine (known9_any W11 (HV.out.below (Wk.Chg.below0 kk13))).mono ?_
        rintro _ W12 ⟨rfl, ch12⟩
        have zz12 := ch12.size
        have sS4 := Wk.Chg.step sS3 ch12 trivial
        refine ⟨_, rfl, sS4, ?_⟩
        refine Wk.dVal 25 (some 68) (.bool true) rfl rfl (by kernel_rfl) (by kernel_rfl) (by kernel_rfl) (fun _ _ _ h => h) (by kernel_rfl) (fun w' hw' => by kernel_rfl) sS4 ?_
        refine Wk.dVal 26 (some 8) (.bool true) rfl rfl (by kernel_rfl) (by kernel_rfl) (by kernel_rfl) (fun _ _ _ h => h) (by kernel_rfl) (fun w' hw' => by kernel_rfl) sS4 ?_
        refine Wk.dEnd (by kernel_rfl) ?_
        refine Wk.nxt ?_
        refine wp_ret ?_
        have kk14 := Wk.Chg.step kk13 ch12 trivial
        refine Wk.ret (.bool true) rfl (by kernel_rfl) ?_
        exact ⟨rfl, Wk.Chg.below0 kk14⟩
      · have kk15 := Wk.Chg.step kk12 ch11 trivial
        refine Wk.oVal (some 63) (.string (Mur.str s)) rfl rfl (by kernel_rfl) (Mur.run_str 22 9 (.tmp 62) 5 rfl Tryd.underlying22 Tryd.underlying5 Tryd.underlying9 A m c s (by kernel_rfl) (Mur.byt_chg HBY.out kk15 (fun g off e hl => trivial))) ?_
        refine ⟨sS3, ?_⟩
        refine Wk.dOp 18 (by kernel_rfl) ?_
        have ow9 := Mur.own8 (Wk.own_chg ow7.own ch11 (fun q e _ _ => trivial))
        refine Wk.oVal (some 61) (.string (Mur.str s)) rfl rfl (by kernel_rfl) (Mur.run_str 22 9 (.tmp 60) 5 rfl Tryd.underlying22 Tryd.underlying5 Tryd.underlying9 AA1 m nn1 s (by kernel_rfl) ow9.byt) ?_
        refine ⟨sS3, ?_⟩
        refine Wk.dVal 21 (some 64) (.bool true) rfl rfl (by kernel_rfl) (by kernel_rfl) (by kernel_rfl) (fun _ _ _ h => h) (by kernel_rfl) (fun w' hw' => (Wk.boolT (b := decide (s = s)) (decide_eq_true (rfl)) (Mur.streq 9 9 (.tmp 61) (.tmp 63) rfl s s (by kernel_rfl) (by kernel_rfl)))) sS3 ?_
        refine Wk.dVal 22 (some 65) (.bool true) rfl rfl (by kernel_rfl) (by kernel_rfl) (by kernel_rfl) (fun _ _ _ h => h) (by kernel_rfl) (fun w' hw' => by kernel_rfl) sS3 ?_
        refine Wk.dVal 23 (some 66) (.bool true) rfl rfl (by kernel_rfl) (by kernel_rfl) (by kernel_rfl) (fun _ _ _ h => h) (by kernel_rfl) (fun w' hw' => by kernel_rfl) sS3 ?_
        refine Wk.dOp 24 (by kernel_rfl) ?_
        refine Wk.oCall (some 67) 17 [] #[] [] rfl rfl (by kernel_rfl) rfl (by kernel_rfl) (by kernel_rfl) ?_
        refine (known9_any W11 (HV.out.below (Wk.Chg.below0 kk15))).mono ?_
        rintro _ W13 ⟨rfl, ch13⟩
        have zz13 := ch13.size
        have sS5 := Wk.Chg.step sS3 ch13 trivial
        refine ⟨_, rfl, sS5, ?_⟩
        refine Wk.dVal 25 (some 68) (.bool true) rfl rfl (by kernel_rfl) (by kernel_rfl) (by kernel_rfl) (fun _ _ _ h => h) (by kernel_rfl) (fun w' hw' => by kernel_rfl) sS5 ?_
        refine Wk.dVal 26 (some 8) (.bool true) rfl rfl (by kernel_rfl) (by kernel_rfl) (by kernel_rfl) (fun _ _ _ h => h) (by kernel_rfl) (fun w' hw' => by kernel_rfl) sS5 ?_
        refine Wk.dEnd (by kernel_rfl) ?_
        refine Wk.nxt ?_
        refine wp_ret ?_
        have kk16 := Wk.Chg.step kk15 ch13 trivial
        refine Wk.ret (.bool true) rfl (by kernel_rfl) ?_
        exact ⟨rfl, Wk.Chg.below0 kk16⟩
    · have hmay1u : ¬ (1 ≤ n ∧ n ≤ 5000) := hmay1
      refine (Make_no AA1 m nn1 k r n hk hr W5 hmay1).mono ?_
      rintro _ W14 ⟨rfl, ch14⟩
      have zz14 := ch14.size
      refine ⟨_, rfl, ?_⟩
      refine Wk.rPure 5 (some 19) (.tuple #[.agg ((Mur.attC Mur.z32 Mur.z32 0 Mur.z32).toArray), .int .i64 2]) rfl rfl (by kernel_rfl) (by kernel_rfl) ?_
      refine Wk.rPure 6 (some 25) (.agg ((Mur.attC Mur.z32 Mur.z32 0 Mur.z32).toArray)) rfl rfl (by kernel_rfl) (by kernel_rfl) ?_
      refine Wk.rPure 7 (some 26) (.int .i64 2) rfl rfl (by kernel_rfl) (by kernel_rfl) ?_
      refine Wk.rEx 8 (some 10) _ rfl rfl (by kernel_rfl) (Wk.new_ex (.pointer (some ⟨W14.heap.size, 0, none⟩)) #[.int .u8 0, .int .u8 0, .int .u8 0, .int .u8 0, .int .u8 0, .int .u8 0, .int .u8 0, .int .u8 0, .int .u8 0, .int .u8 0, .int .u8 0, .int .u8 0, .int .u8 0, .int .u8 0, .int .u8 0, .int .u8 0, .int .u8 0, .int .u8 0, .int .u8 0, .int .u8 0, .int .u8 0, .int .u8 0, .int .u8 0, .int .u8 0, .int .u8 0, .int .u8 0, .int .u8 0, .int .u8 0, .int .u8 0, .int .u8 0, .int .u8 0, .int .u8 0, .int .u8 0, .int .u8 0, .int .u8 0, .int .u8 0, .int .u8 0, .int .u8 0, .int .u8 0, .int .u8 0, .int .u8 0, .int .u8 0, .int .u8 0, .int .u8 0, .int .u8 0, .int .u8 0, .int .u8 0, .int .u8 0, .int .u8 0, .int .u8 0, .int .u8 0, .int .u8 0, .int .u8 0, .int .u8 0, .int .u8 0, .int .u8 0, .int .u8 0, .int .u8 0, .int .u8 0, .int .u8 0, .int .u8 0, .int .u8 0, .int .u8 0, .int .u8 0, .int .i64 0, .int .u8 0, .int .u8 0, .int .u8 0, .int .u8 0, .int .u8 0, .int .u8 0, .int .u8 0, .int .u8 0, .int .u8 0, .int .u8 0, .int .u8 0, .int .u8 0, .int .u8 0, .int .u8 0, .int .u8 0, .int .u8 0, .int .u8 0, .int .u8 0, .int .u8 0, .int .u8 0, .int .u8 0, .int .u8 0, .int .u8 0, .int .u8 0, .int .u8 0, .int .u8 0, .int .u8 0, .int .u8 0, .int .u8 0, .int .u8 0, .int .u8 0, .int .u8 0] 36 (by kernel_rfl)) ?_
      rintro _ W15 ⟨rfl, hb6, ch15, sz6⟩
      have zz15 := ch15.size
      rw [← Mur.attC_zero] at hb6
      refine Wk.rExS 9 none _ rfl rfl (by kernel_rfl) (Mur.storeArr 36 (.tmp 10) (.tmp 25) rfl W14.heap.size (by kernel_rfl) (Mur.attC Mur.z32 Mur.z32 0 Mur.z32).toArray 97 (Mur.attC_size rfl rfl rfl) Mur.attC_all (by kernel_rfl) (by kernel_rfl) 36 ((Mur.attC Mur.z32 Mur.z32 0 Mur.z32).toArray) hb6 (Mur.attC_size rfl rfl rfl)) ?_
      rintro W16 ⟨hb7, ch16⟩
      have zz16 := ch16.size
      refine Wk.rPure 10 (some 11) (.int .i64 2) rfl rfl (by kernel_rfl) (by kernel_rfl) ?_
      refine Wk.rEnd 11 rfl ?_
      refine Wk.nxt ?_
      refine wp_seq ?_
      refine wp_seq ?_
      refine Wk.reg ?_
      refine Wk.rPure 0 (some 27) (.int .i64 n) rfl rfl (by kernel_rfl) (by kernel_rfl) ?_
      by_cases hx2 : n < (1 : Int)
      · refine Wk.rPure 1 (some 28) (.bool true) rfl rfl (by kernel_rfl) (Wk.boolT (b := decide (n < (1 : Int))) (decide_eq_true (by first | exact hx2 | omega)) (by kernel_rfl)) ?_
        refine Wk.rPure 2 (some 29) (.bool true) rfl rfl (by kernel_rfl) (by kernel_rfl) ?_
        refine Wk.rPass 3 (some 30) rfl rfl (by kernel_rfl) ?_
        refine Wk.rPass 4 (some 31) rfl rfl (by kernel_rfl) ?_
        refine Wk.rPure 5 (some 32) (.bool true) rfl rfl (by kernel_rfl) (by kernel_rfl) ?_
        refine Wk.rEnd 6 rfl ?_
        refine Wk.nxt ?_
        refine wp_cond_true (by kernel_rfl) ?_
        refine wp_seq ?_
        refine Wk.reg ?_
        refine Wk.rPure 0 (some 33) (.agg ((Mur.attC Mur.z32 Mur.z32 0 Mur.z32).toArray)) rfl rfl (by kernel_rfl) (Mur.loadArr 36 (.tmp 10) rfl _ Tryd.underlying36 rfl W14.heap.size (by kernel_rfl) (Mur.attC Mur.z32 Mur.z32 0 Mur.z32).toArray 97 (Mur.attC_size rfl rfl rfl) (by kernel_rfl) 36 (0, 0) hb7) ?_
        refine Wk.rPure 1 (some 34) (.agg ((Mur.attC Mur.z32 Mur.z32 0 Mur.z32).toArray)) rfl rfl (by kernel_rfl) (by kernel_rfl) ?_
        refine Wk.rPure 2 (some 35) (.bool true) rfl rfl (by kernel_rfl) (Wk.boolT (b := decide (Mur.z32 = Mur.z32 ∧ Mur.z32 = Mur.z32 ∧ (0 : Int) = 0 ∧ Mur.z32 = Mur.z32)) (decide_eq_true (⟨rfl, rfl, rfl, rfl⟩)) (run_eql_att (.tmp 33) (.tmp 34) 36 rfl rfl rfl rfl rfl rfl rfl (by decide) (by decide) (by kernel_rfl) (by kernel_rfl))) ?_
        refine Wk.rPure 3 (some 36) (.bool true) rfl rfl (by kernel_rfl) (by kernel_rfl) ?_
        refine Wk.rPure 4 (some 37) (.int .i64 2) rfl rfl (by kernel_rfl) (by kernel_rfl) ?_
        refine Wk.rPure 5 (some 38) (.bool true) rfl rfl (by kernel_rfl) (Wk.boolT (b := ((2 : Int) == (2 : Int))) (beq_iff_eq.2 (by decide)) (by kernel_rfl)) ?_
        refine Wk.rPure 6 (some 39) (.bool true) rfl rfl (by kernel_rfl) (by kernel_rfl) ?_
        refine Wk.rPure 7 (some 40) (.bool true) rfl rfl (by kernel_rfl) (by kernel_rfl) ?_
        refine Wk.rCall 8 (some 41) 17 [] #[] [] rfl rfl (by kernel_rfl) rfl (by kernel_rfl) (by kernel_rfl) ?_
        have kk17 := Wk.Chg.step kk6 ch5 (Wk.newOr_blk (fun g hg => by have := ow1.lt g hg; omega))
        have kk18 := Wk.Chg.step kk17 ch14 trivial
        have kk19 := Wk.Chg.step kk18 ch15 trivial
        have kk20 := Wk.Chg.step kk19 ch16 ⟨.inr (by omega), trivial⟩
        refine (known9_any W16 (HV.out.below (Wk.Chg.below0 kk20))).mono ?_
        rintro _ W17 ⟨rfl, ch17⟩
        have zz17 := ch17.size
        refine ⟨_, rfl, ?_⟩
        refine Wk.rPure 9 (some 42) (.bool true) rfl rfl (by kernel_rfl) (by kernel_rfl) ?_
        refine Wk.rPure 10 (some 8) (.bool true) rfl rfl (by kernel_rfl) (by kernel_rfl) ?_
        refine Wk.rEnd 11 rfl ?_
        refine Wk.nxt ?_
        refine wp_ret ?_
        refine Wk.thR ?_
        have kk21 := Wk.Chg.step kk20 ch17 trivial
        refine Wk.ret (.bool true) rfl (by kernel_rfl) ?_
        exact ⟨rfl, Wk.Chg.below0 kk21⟩
      · refine Wk.rPure 1 (some 28) (.bool false) rfl rfl (by kernel_rfl) (Wk.boolF (b := decide (n < (1 : Int))) (decide_eq_false (by first | exact hx2 | omega)) (by kernel_rfl)) ?_
        refine Wk.rPure 2 (some 29) (.bool false) rfl rfl (by kernel_rfl) (by kernel_rfl) ?_
        refine Wk.rPure 3 (some 30) (.int .i64 n) rfl rfl (by kernel_rfl) (by kernel_rfl) ?_
        refine Wk.rPure 4 (some 31) (.bool true) rfl rfl (by kernel_rfl) (Wk.boolT (b := decide (n > (5000 : Int))) (decide_eq_true (by omega)) (by kernel_rfl)) ?_
        refine Wk.rPure 5 (some 32) (.bool true) rfl rfl (by kernel_rfl) (by kernel_rfl) ?_
        refine Wk.rEnd 6 rfl ?_
        refine Wk.nxt ?_
        refine wp_cond_true (by kernel_rfl) ?_
        refine wp_seq ?_
        refine Wk.reg ?_
        refine Wk.rPure 0 (some 33) (.agg ((Mur.attC Mur.z32 Mur.z32 0 Mur.z32).toArray)) rfl rfl (by kernel_rfl) (Mur.loadArr 36 (.tmp 10) rfl _ Tryd.underlying36 rfl W14.heap.size (by kernel_rfl) (Mur.attC Mur.z32 Mur.z32 0 Mur.z32).toArray 97 (Mur.attC_size rfl rfl rfl) (by kernel_rfl) 36 (0, 0) hb7) ?_
        refine Wk.rPure 1 (some 34) (.agg ((Mur.attC Mur.z32 Mur.z32 0 Mur.z32).toArray)) rfl rfl (by kernel_rfl) (by kernel_rfl) ?_
        refine Wk.rPure 2 (some 35) (.bool true) rfl rfl (by kernel_rfl) (Wk.boolT (b := decide (Mur.z32 = Mur.z32 ∧ Mur.z32 = Mur.z32 ∧ (0 : Int) = 0 ∧ Mur.z32 = Mur.z32)) (decide_eq_true (⟨rfl, rfl, rfl, rfl⟩)) (run_eql_att (.tmp 33) (.tmp 34) 36 rfl rfl rfl rfl rfl rfl rfl (by decide) (by decide) (by kernel_rfl) (by kernel_rfl))) ?_
        refine Wk.rPure 3 (some 36) (.bool true) rfl rfl (by kernel_rfl) (by kernel_rfl) ?_
        refine Wk.rPure 4 (some 37) (.int .i64 2) rfl rfl (by kernel_rfl) (by kernel_rfl) ?_
        refine Wk.rPure 5 (some 38) (.bool true) rfl rfl (by kernel_rfl) (Wk.boolT (b := ((2 : Int) == (2 : Int))) (beq_iff_eq.2 (by decide)) (by kernel_rfl)) ?_
        refine Wk.rPure 6 (some 39) (.bool true) rfl rfl (by kernel_rfl) (by kernel_rfl) ?_
        refine Wk.rPure 7 (some 40) (.bool true) rfl rfl (by kernel_rfl) (by kernel_rfl) ?_
        refine Wk.rCall 8 (some 41) 17 [] #[] [] rfl rfl (by kernel_rfl) rfl (by kernel_rfl) (by kernel_rfl) ?_
        have kk22 := Wk.Chg.step kk6 ch5 (Wk.newOr_blk (fun g hg => by have := ow1.lt g hg; omega))
        have kk23 := Wk.Chg.step kk22 ch14 trivial
        have kk24 := Wk.Chg.step kk23 ch15 trivial
        have kk25 := Wk.Chg.step kk24 ch16 ⟨.inr (by omega), trivial⟩
        refine (known9_any W16 (HV.out.below (Wk.Chg.below0 kk25))).mono ?_
        rintro _ W18 ⟨rfl, ch18⟩
        have zz18 := ch18.size
        refine ⟨_, rfl, ?_⟩
        refine Wk.rPure 9 (some 42) (.bool true) rfl rfl (by kernel_rfl) (by kernel_rfl) ?_
        refine Wk.rPure 10 (some 8) (.bool true) rfl rfl (by kernel_rfl) (by kernel_rfl) ?_
        refine Wk.rEnd 11 rfl ?_
        refine Wk.nxt ?_
        refine wp_ret ?_
        refine Wk.thR ?_
        have kk26 := Wk.Chg.step kk25 ch18 trivial
        refine Wk.ret (.bool true) rfl (by kernel_rfl) ?_
        exact ⟨rfl, Wk.Chg.below0 kk26⟩
end Go.Proofs.YtljfjjofhclhiaaDoor
