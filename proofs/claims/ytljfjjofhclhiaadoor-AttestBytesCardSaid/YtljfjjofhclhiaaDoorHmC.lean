/- The document's tag, walked. -/
import Derived.Test.YtljfjjofhclhiaaDoorHmR
namespace Go.Proofs.YtljfjjofhclhiaaDoor
open Go.RowKit
open Mur (b8s Byt Own8 Seg Segs flat cutA)
open Mur (St)
set_option maxRecDepth 100000
set_option maxHeartbeats 4000000
def Rkey_F1 (b : Array Value) (u8 : Value) : Act := ⟨#[b.getD 0 undef, b.getD 1 undef, b.getD 2 undef, b.getD 3 undef, b.getD 4 undef, b.getD 5 undef, b.getD 6 undef, b.getD 7 undef, u8, b.getD 9 undef, b.getD 10 undef, b.getD 11 undef, b.getD 12 undef, b.getD 13 undef, b.getD 14 undef, b.getD 15 undef, b.getD 16 undef, b.getD 17 undef, b.getD 18 undef, b.getD 19 undef, b.getD 20 undef, b.getD 21 undef, b.getD 22 undef, b.getD 23 undef, b.getD 24 undef, b.getD 25 undef, b.getD 26 undef], []⟩
def Rkey_F2 (b : Array Value) (u8 : Value) : Act := ⟨#[b.getD 0 undef, b.getD 1 undef, b.getD 2 undef, b.getD 3 undef, b.getD 4 undef, b.getD 5 undef, b.getD 6 undef, b.getD 7 undef, u8, b.getD 9 undef, b.getD 10 undef, b.getD 11 undef, b.getD 12 undef, b.getD 13 undef, b.getD 14 undef, b.getD 15 undef, b.getD 16 undef, b.getD 17 undef, b.getD 18 undef, b.getD 19 undef, b.getD 20 undef, b.getD 21 undef, b.getD 22 undef, b.getD 23 undef, b.getD 24 undef, b.getD 25 undef, b.getD 26 undef], []⟩
def TagBy_F1 (b : Array Value) (u3 : Value) (u4 : Value) (u5 : Value) (u8 : Value) (u9 : Value) (u10 : Value) (u11 : Value) (u12 : Value) : Act := ⟨#[b.getD 0 undef, b.getD 1 undef, b.getD 2 undef, u3, u4, u5, b.getD 6 undef, b.getD 7 undef, u8, u9, u10, u11, u12, b.getD 13 undef, b.getD 14 undef, b.getD 15 undef, b.getD 16 undef, b.getD 17 undef, b.getD 18 undef, b.getD 19 undef, b.getD 20 undef, b.getD 21 undef, b.getD 22 undef, b.getD 23 undef, b.getD 24 undef, b.getD 25 undef, b.getD 26 undef, b.getD 27 undef, b.getD 28 undef, b.getD 29 undef, b.getD 30 undef, b.getD 31 undef, b.getD 32 undef, b.getD 33 undef, b.getD 34 undef, b.getD 35 undef, b.getD 36 undef, b.getD 37 undef, b.getD 38 undef, b.getD 39 undef, b.getD 40 undef, b.getD 41 undef, b.getD 42 undef, b.getD 43 undef, b.getD 44 undef, b.getD 45 undef, b.getD 46 undef, b.getD 47 undef, b.getD 48 undef, b.getD 49 undef], []⟩
theorem Rkey_any (hc kc : Array Value) (Hh : Hid (hc = stCells Mur.H0)) (Hk : Hid (kc = Mur.u32s Mur.K)) (s : List UInt8) (A : Option Addr) (n c : Nat) (w : World) (hb : Byt w A n s) (hnc : n ≤ c) (ha : A = none → c = 0) (hn : n ≤ 140737488351232) : Calls Tryd.prog 40 #[.agg hc, .agg kc, .slice A n c] w fun e w' => ∃ q cq K, Hid (K = Mur.hkey s) ∧ K.length = 64 ∧ e = .returned (.slice (some ⟨q, 0, none⟩) 64 cq) ∧ Byt w' (some ⟨q, 0, none⟩) 64 K ∧ (w.heap.size ≤ q ∧ q < w'.heap.size) ∧ Wk.Chg [] w w' := by
  have hcs := hc_size Hh.out
  have kcs := kc_size Hk.out
  have HBY := Go.Lib.hid hb
  clear hb
  have HA := Go.Lib.hid ha
  clear ha
  refine calls_of_wp Tryd.func40 rfl ?_
  refine wp_seq ?_
  refine Wk.reg ?_
  refine Wk.rEx 0 (some 3) _ rfl rfl (by kernel_rfl) (Wk.new_ex (.pointer (some ⟨w.heap.size, 0, none⟩)) hc 60 (by kernel_rfl)) ?_
  rintro _ W1 ⟨rfl, hb1, ch1, sz1⟩
  have zz1 := ch1.size
  refine Wk.rEx 1 (some 4) _ rfl rfl (by kernel_rfl) (Wk.new_ex (.pointer (some ⟨W1.heap.size, 0, none⟩)) kc 61 (by kernel_rfl)) ?_
  rintro _ W2 ⟨rfl, hb2, ch2, sz2⟩
  have zz2 := ch2.size
  refine Wk.rPure 2 (some 6) (.slice none 0 0) rfl rfl (by kernel_rfl) (by kernel_rfl) ?_
  refine Wk.rEnd 3 rfl ?_
  refine Wk.nxt ?_
  refine wp_seq ?_
  refine wp_seq ?_
  refine Wk.reg ?_
  refine Wk.rPure 0 (some 9) (.slice A n c) rfl rfl (by kernel_rfl) (by kernel_rfl) ?_
  refine Wk.rPure 1 (some 10) (.int .i64 ((n : Nat) : Int)) rfl rfl (by kernel_rfl) (by kernel_rfl) ?_
  by_cases hx1 : ((n : Nat) : Int) > (64 : Int)
  · refine Wk.rPure 2 (some 11) (.bool true) rfl rfl (by kernel_rfl) (Wk.boolT (b := decide (((n : Nat) : Int) > (64 : Int))) (decide_eq_true (by first | exact hx1 | omega)) (by kernel_rfl)) ?_
    refine Wk.rEnd 3 rfl ?_
    refine Wk.nxt ?_
    refine wp_cond_true (by kernel_rfl) ?_
    refine wp_seq ?_
    refine Wk.reg ?_
    refine Wk.rPure 0 (some 12) (.agg hc) rfl rfl (by kernel_rfl) (Mur.loadArr 60 (.tmp 3) rfl _ Tryd.underlying60 rfl w.heap.size (by kernel_rfl) hc 8 hcs.1 (by kernel_rfl) 60 (0, 0) (Wk.Chg.hp ch2 hb1 trivial)) ?_
    refine Wk.rPure 1 (some 13) (.agg kc) rfl rfl (by kernel_rfl) (Mur.loadArr 61 (.tmp 4) rfl _ Tryd.underlying61 rfl W1.heap.size (by kernel_rfl) kc 64 kcs.1 (by kernel_rfl) 61 (0, 0) hb2) ?_
    refine Wk.rPure 2 (some 14) (.slice A n c) rfl rfl (by kernel_rfl) (by kernel_rfl) ?_
    refine Wk.rCall 3 (some 15) 41 [.tmp 12, .tmp 13, .tmp 14] #[60, 61, 22] [.agg hc, .agg kc, .slice A n c] rfl rfl (by kernel_rfl) rfl (by kernel_rfl) (by kernel_rfl) ?_
    have kk1 : Wk.Chg [] w W1 := Wk.Chg.step ((Wk.Chg.refl _).more (by simp)) ch1 trivial
    have kk2 := Wk.Chg.step kk1 ch2 trivial
    refine (Rsum_var hc kc Hh Hk s A n c W2 (Mur.byt_chg HBY.out kk2 (fun g off e hl => trivial)) (by omega) HA.out (by omega)).mono ?_
    rintro _ W3 ⟨dd1, hd1, hdl1, rfl, hB1⟩
    have ch3 := Wk.Chg.ofBelow hB1
    have zz3 := ch3.size
    refine ⟨_, rfl, ?_⟩
    refine Wk.rEx 4 (some 7) _ rfl rfl (by kernel_rfl) (Wk.new_ex (.pointer (some ⟨W3.heap.size, 0, none⟩)) #[.int .u8 0, .int .u8 0, .int .u8 0, .int .u8 0, .int .u8 0, .int .u8 0, .int .u8 0, .int .u8 0, .int .u8 0, .int .u8 0, .int .u8 0, .int .u8 0, .int .u8 0, .int .u8 0, .int .u8 0, .int .u8 0, .int .u8 0, .int .u8 0, .int .u8 0, .int .u8 0, .int .u8 0, .int .u8 0, .int .u8 0, .int .u8 0, .int .u8 0, .int .u8 0, .int .u8 0, .int .u8 0, .int .u8 0, .int .u8 0, .int .u8 0, .int .u8 0] 25 (by kernel_rfl)) ?_
    rintro _ W4 ⟨rfl, hb3, ch4, sz3⟩
    have zz4 := ch4.size
    refine Wk.rExS 5 none _ rfl rfl (by kernel_rfl) (Mur.storeAll 25 (.tmp 7) (.tmp 15) rfl W3.heap.size (by kernel_rfl) dd1 32 hdl1 (by kernel_rfl) (by kernel_rfl) 25 #[.int .u8 0, .int .u8 0, .int .u8 0, .int .u8 0, .int .u8 0, .int .u8 0, .int .u8 0, .int .u8 0, .int .u8 0, .int .u8 0, .int .u8 0, .int .u8 0, .int .u8 0, .int .u8 0, .int .u8 0, .int .u8 0, .int .u8 0, .int .u8 0, .int .u8 0, .int .u8 0, .int .u8 0, .int .u8 0, .int .u8 0, .int .u8 0, .int .u8 0, .int .u8 0, .int .u8 0, .int .u8 0, .int .u8 0, .int .u8 0, .int .u8 0, .int .u8 0] hb3 rfl) ?_
    rintro W5 ⟨hb4, ch5⟩
    have zz5 := ch5.size
    refine Wk.rEnd 6 rfl ?_
    refine Wk.nxt ?_
    refine Wk.reg ?_
    refine Wk.rPure 0 (some 16) (.slice (some ⟨W3.heap.size, 0, none⟩) 32 32) rfl rfl (by kernel_rfl) (Mur.arr_slice 25 5 (.tmp 7) 32 rfl Tryd.underlying25 (by kernel_rfl) W3.heap.size (by kernel_rfl)) ?_
    refine Wk.rPure 1 (some 2) (.slice (some ⟨W3.heap.size, 0, none⟩) 32 32) rfl rfl (by kernel_rfl) (by kernel_rfl) ?_
    refine Wk.rEnd 2 rfl ?_
    refine Wk.nxt ?_
    refine wp_seq ?_
    refine Wk.reg ?_
    refine Wk.rEx 0 (some 17) _ rfl rfl (by kernel_rfl) (Wk.new_ex (.slice (some ⟨W5.heap.size, 0, none⟩) 0 0) #[] 5 (by kernel_rfl)) ?_
    rintro _ W6 ⟨rfl, hb5, ch6, sz4⟩
    have zz6 := ch6.size
    refine Wk.rPure 1 (some 18) (.slice (some ⟨W3.heap.size, 0, none⟩) 32 32) rfl rfl (by kernel_rfl) (by kernel_rfl) ?_
    have ow1 := Mur.own8_empty hb5 (Nat.le_refl _)
    refine Wk.rEx 2 (some 19) _ rfl rfl (by kernel_rfl) (Mur.append8 (.tmp 17) (.tmp 18) 22 5 rfl Tryd.underlying22 (by kernel_rfl) W5.heap.size (some ⟨W5.heap.size, 0, none⟩) 0 0 ([]) (some ⟨W3.heap.size, 0, none⟩) 32 32 dd1 (by kernel_rfl) (by kernel_rfl) ow1.own (Mur.byt_blk dd1 hdl1 (Wk.Chg.hp ch6 hb4 trivial)) (fun h => by cases h) (by omega) (by omega) 32 (by omega) dd1 rfl) ?_
    rintro _ W7 ⟨AA1, nn1, rfl, ow2, ch7, ha1⟩
    have zz7 := ch7.size
    have hq1 := ow2.nc
    have hq2 := ow2.cm
    refine Wk.rPure 3 (some 8) (.slice AA1 32 nn1) rfl rfl (by kernel_rfl) (by kernel_rfl) ?_
    refine Wk.rEnd 4 rfl ?_
    refine Wk.nxt ?_
    refine wp_seq ?_
    refine wp_block ?_
    refine Wk.loop (fun m_ a wr => ∃ (z : Nat) (A1 : Option Addr) (N : Nat) (c1 : Nat), m_ = 64 - z ∧ a = Rkey_F1 a.tmps (.slice A1 N c1) ∧ 32 + z ≤ 64 ∧ N = 32 + z ∧ Own8 wr W5.heap.size 5 A1 N c1 (dd1 ++ List.replicate z 0) ∧ Wk.Chg [] w wr ∧ W5.heap.size ≤ wr.heap.size) (64 - 0) ?_ ?_
    · have kk3 := Wk.Chg.step kk2 ch3 trivial
      have kk4 := Wk.Chg.step kk3 ch4 trivial
      have kk5 := Wk.Chg.step kk4 ch5 ⟨.inr (by omega), trivial⟩
      have kk6 := Wk.Chg.step kk5 ch6 trivial
      have kk7 := Wk.Chg.step kk6 ch7 (Wk.newOr_blk (fun g hg => by have := ow1.lt g hg; omega))
      refine ⟨0, AA1, 32, nn1, rfl, by kernel_rfl, by omega, rfl, (by rw [List.replicate_zero, List.append_nil]; exact ow2), kk7, (by omega)⟩
    · rintro mm1 aa1 W8 ⟨z, A1, N, c1, hmm1, hF1, hz, hN, hO, HB, hbs⟩
      generalize aa1.tmps = bb1 at hF1
      subst hF1
      have hqn := hO.nc
      have hqm := hO.cm
      unfold Go.maxLen at hqm
      by_cases hlt : N < 64
      · refine wp_seq ?_
        refine wp_seq ?_
        refine Wk.reg ?_
        refine Wk.rPure 0 (some 20) (.slice A1 N c1) rfl rfl (by kernel_rfl) (by kernel_rfl) ?_
        refine Wk.rPure 1 (some 21) (.int .i64 ((N : Nat) : Int)) rfl rfl (by kernel_rfl) (by kernel_rfl) ?_
        refine Wk.rPure 2 (some 22) (.bool true) rfl rfl (by kernel_rfl) (Wk.boolT (b := decide (((N : Nat) : Int) < (64 : Int))) (decide_eq_true (by omega)) (by kernel_rfl)) ?_
        refine Wk.rEnd 3 rfl ?_
        refine Wk.nxt ?_
        refine wp_cond_true (by kernel_rfl) ?_
        refine wp_skip ?_
        refine Wk.nxt ?_
        refine wp_block ?_
        refine Wk.reg ?_
        refine Wk.rPure 0 (some 23) (.slice A1 N c1) rfl rfl (by kernel_rfl) (by kernel_rfl) ?_
        refine Wk.rEx 1 (some 24) _ rfl rfl (by kernel_rfl) (Wk.new_ex (.slice (some ⟨W8.heap.size, 0, none⟩) 1 1) #[.int .u8 0] 5 (by kernel_rfl)) ?_
        rintro _ W9 ⟨rfl, hb6, ch8, sz5⟩
        have zz8 := ch8.size
        have ow3 := Mur.own8 (Wk.own_chg hO.own ch8 (fun q e _ _ => trivial))
        refine Wk.rEx 2 (some 25) _ rfl rfl (by kernel_rfl) (Mur.append8 (.tmp 23) (.tmp 24) 22 5 rfl Tryd.underlying22 (by kernel_rfl) W5.heap.size A1 N c1 (dd1 ++ List.replicate z 0) (some ⟨W8.heap.size, 0, none⟩) 1 1 ([0]) (by kernel_rfl) (by kernel_rfl) ow3.own (Mur.byt_row [0] hb6) (fun h => by cases h) (by omega) (by omega) (N + 1) (by omega) ((dd1 ++ List.replicate z 0) ++ ([0])) rfl) ?_
        rintro _ W10 ⟨AA2, nn2, rfl, ow4, ch9, ha2⟩
        have zz9 := ch9.size
        have hq3 := ow4.nc
        have hq4 := ow4.cm
        refine Wk.rPure 3 (some 8) (.slice AA2 (N + 1) nn2) rfl rfl (by kernel_rfl) (by kernel_rfl) ?_
        refine Wk.rEnd 4 rfl ?_
        refine Wk.inN ?_
        refine Wk.nxt ?_
        have kk8 := Wk.Chg.step HB ch8 trivial
        have kk9 := Wk.Chg.step kk8 ch9 (Wk.newOr_blk (fun g hg => by have := hO.lt g hg; omega))
        refine ⟨_, ?_, z + 1, AA2, N + 1, nn2, rfl, by kernel_rfl, (by omega), (by omega), (by rw [← Mur.rep_snoc]; exact ow4), kk9, (by omega)⟩
        · omega
      · refine wp_seq ?_
        refine wp_seq ?_
        refine Wk.reg ?_
        refine Wk.rPure 0 (some 20) (.slice A1 N c1) rfl rfl (by kernel_rfl) (by kernel_rfl) ?_
        refine Wk.rPure 1 (some 21) (.int .i64 ((N : Nat) : Int)) rfl rfl (by kernel_rfl) (by kernel_rfl) ?_
        refine Wk.rPure 2 (some 22) (.bool false) rfl rfl (by kernel_rfl) (Wk.boolF (b := decide (((N : Nat) : Int) < (64 : Int))) (decide_eq_false (by omega)) (by kernel_rfl)) ?_
        refine Wk.rEnd 3 rfl ?_
        refine Wk.nxt ?_
        refine wp_cond_false (by kernel_rfl) ?_
        refine wp_exit ?_
        refine Wk.thX ?_
        refine Wk.thX ?_
        refine Wk.inX ?_
        refine Wk.nxt ?_
        refine wp_seq ?_
        refine Wk.reg ?_
        refine Wk.rPure 0 (some 26) (.slice A1 N c1) rfl rfl (by kernel_rfl) (by kernel_rfl) ?_
        refine Wk.rPure 1 (some 6) (.slice A1 N c1) rfl rfl (by kernel_rfl) (by kernel_rfl) ?_
        refine Wk.rEnd 2 rfl ?_
        refine Wk.nxt ?_
        refine wp_ret ?_
        have hN64 : N = 64 := by omega
        subst hN64
        obtain ⟨q, rfl, hqb, hql⟩ := Mur.Own8.some hO (by omega)
        refine Wk.ret (.slice (some ⟨q, 0, none⟩) 64 c1) rfl (by kernel_rfl) ?_
        exact ⟨q, c1, _, Go.Lib.hid (Mur.rkey_big (by rw [HBY.out.1]; omega) hd1.out (by omega)), (by simp only [List.length_append, List.length_replicate]; have := HBY.out.1; omega), rfl, hO.byt, ⟨by omega, by omega⟩, HB⟩
  · refine Wk.rPure 2 (some 11) (.bool false) rfl rfl (by kernel_rfl) (Wk.boolF (b := decide (((n : Nat) : Int) > (64 : Int))) (decide_eq_false (by first | exact hx1 | omega)) (by kernel_rfl)) ?_
    refine Wk.rEnd 3 rfl ?_
    refine Wk.nxt ?_
    refine wp_cond_false (by kernel_rfl) ?_
    refine wp_skip ?_
    refine Wk.nxt ?_
    refine wp_seq ?_
    refine Wk.reg ?_
    refine Wk.rEx 0 (some 17) _ rfl rfl (by kernel_rfl) (Wk.new_ex (.slice (some ⟨W2.heap.size, 0, none⟩) 0 0) #[] 5 (by kernel_rfl)) ?_
    rintro _ W11 ⟨rfl, hb7, ch10, sz6⟩
    have zz10 := ch10.size
    refine Wk.rPure 1 (some 18) (.slice A n c) rfl rfl (by kernel_rfl) (by kernel_rfl) ?_
    have ow5 := Mur.own8_empty hb7 (Nat.le_refl _)
    have kk10 : Wk.Chg [] w W1 := Wk.Chg.step ((Wk.Chg.refl _).more (by simp)) ch1 trivial
    have kk11 := Wk.Chg.step kk10 ch2 trivial
    have kk12 := Wk.Chg.step kk11 ch10 trivial
    refine Wk.rEx 2 (some 19) _ rfl rfl (by kernel_rfl) (Mur.append8 (.tmp 17) (.tmp 18) 22 5 rfl Tryd.underlying22 (by kernel_rfl) W2.heap.size (some ⟨W2.heap.size, 0, none⟩) 0 0 ([]) A n c s (by kernel_rfl) (by kernel_rfl) ow5.own (Mur.byt_chg HBY.out kk12 (fun g off e hl => trivial)) HA.out (by omega) (by omega) n (by omega) s rfl) ?_
    rintro _ W12 ⟨AA3, nn3, rfl, ow6, ch11, ha3⟩
    have zz11 := ch11.size
    have hq5 := ow6.nc
    have hq6 := ow6.cm
    refine Wk.rPure 3 (some 8) (.slice AA3 n nn3) rfl rfl (by kernel_rfl) (by kernel_rfl) ?_
    refine Wk.rEnd 4 rfl ?_
    refine Wk.nxt ?_
    refine wp_seq ?_
    refine wp_block ?_
    refine Wk.loop (fun m_ a wr => ∃ (z : Nat) (A1 : Option Addr) (N : Nat) (c1 : Nat), m_ = 64 - z ∧ a = Rkey_F2 a.tmps (.slice A1 N c1) ∧ n + z ≤ 64 ∧ N = n + z ∧ Own8 wr W2.heap.size 5 A1 N c1 (s ++ List.replicate z 0) ∧ Wk.Chg [] w wr ∧ W2.heap.size ≤ wr.heap.size) (64 - 0) ?_ ?_
    · have kk13 := Wk.Chg.step kk12 ch11 (Wk.newOr_blk (fun g hg => by have := ow5.lt g hg; omega))
      refine ⟨0, AA3, n, nn3, rfl, by kernel_rfl, by omega, rfl, (by rw [List.replicate_zero, List.append_nil]; exact ow6), kk13, (by omega)⟩
    · rintro mm2 aa2 W13 ⟨z, A1, N, c1, hmm2, hF2, hz, hN, hO, HB, hbs⟩
      generalize aa2.tmps = bb2 at hF2
      subst hF2
      have hqn := hO.nc
      have hqm := hO.cm
      unfold Go.maxLen at hqm
      by_cases hlt : N < 64
      · refine wp_seq ?_
        refine wp_seq ?_
        refine Wk.reg ?_
        refine Wk.rPure 0 (some 20) (.slice A1 N c1) rfl rfl (by kernel_rfl) (by kernel_rfl) ?_
        refine Wk.rPure 1 (some 21) (.int .i64 ((N : Nat) : Int)) rfl rfl (by kernel_rfl) (by kernel_rfl) ?_
        refine Wk.rPure 2 (some 22) (.bool true) rfl rfl (by kernel_rfl) (Wk.boolT (b := decide (((N : Nat) : Int) < (64 : Int))) (decide_eq_true (by omega)) (by kernel_rfl)) ?_
        refine Wk.rEnd 3 rfl ?_
        refine Wk.nxt ?_
        refine wp_cond_true (by kernel_rfl) ?_
        refine wp_skip ?_
        refine Wk.nxt ?_
        refine wp_block ?_
        refine Wk.reg ?_
        refine Wk.rPure 0 (some 23) (.slice A1 N c1) rfl rfl (by kernel_rfl) (by kernel_rfl) ?_
        refine Wk.rEx 1 (some 24) _ rfl rfl (by kernel_rfl) (Wk.new_ex (.slice (some ⟨W13.heap.size, 0, none⟩) 1 1) #[.int .u8 0] 5 (by kernel_rfl)) ?_
        rintro _ W14 ⟨rfl, hb8, ch12, sz7⟩
        have zz12 := ch12.size
        have ow7 := Mur.own8 (Wk.own_chg hO.own ch12 (fun q e _ _ => trivial))
        refine Wk.rEx 2 (some 25) _ rfl rfl (by kernel_rfl) (Mur.append8 (.tmp 23) (.tmp 24) 22 5 rfl Tryd.underlying22 (by kernel_rfl) W2.heap.size A1 N c1 (s ++ List.replicate z 0) (some ⟨W13.heap.size, 0, none⟩) 1 1 ([0]) (by kernel_rfl) (by kernel_rfl) ow7.own (Mur.byt_row [0] hb8) (fun h => by cases h) (by omega) (by omega) (N + 1) (by omega) ((s ++ List.replicate z 0) ++ ([0])) rfl) ?_
        rintro _ W15 ⟨AA4, nn4, rfl, ow8, ch13, ha4⟩
        have zz13 := ch13.size
        have hq7 := ow8.nc
        have hq8 := ow8.cm
        refine Wk.rPure 3 (some 8) (.slice AA4 (N + 1) nn4) rfl rfl (by kernel_rfl) (by kernel_rfl) ?_
        refine Wk.rEnd 4 rfl ?_
        refine Wk.inN ?_
        refine Wk.nxt ?_
        have kk14 := Wk.Chg.step HB ch12 trivial
        have kk15 := Wk.Chg.step kk14 ch13 (Wk.newOr_blk (fun g hg => by have := hO.lt g hg; omega))
        refine ⟨_, ?_, z + 1, AA4, N + 1, nn4, rfl, by kernel_rfl, (by omega), (by omega), (by rw [← Mur.rep_snoc]; exact ow8), kk15, (by omega)⟩
        · omega
      · refine wp_seq ?_
        refine wp_seq ?_
        refine Wk.reg ?_
        refine Wk.rPure 0 (some 20) (.slice A1 N c1) rfl rfl (by kernel_rfl) (by kernel_rfl) ?_
        refine Wk.rPure 1 (some 21) (.int .i64 ((N : Nat) : Int)) rfl rfl (by kernel_rfl) (by kernel_rfl) ?_
        refine Wk.rPure 2 (some 22) (.bool false) rfl rfl (by kernel_rfl) (Wk.boolF (b := decide (((N : Nat) : Int) < (64 : Int))) (decide_eq_false (by omega)) (by kernel_rfl)) ?_
        refine Wk.rEnd 3 rfl ?_
        refine Wk.nxt ?_
        refine wp_cond_false (by kernel_rfl) ?_
        refine wp_exit ?_
        refine Wk.thX ?_
        refine Wk.thX ?_
        refine Wk.inX ?_
        refine Wk.nxt ?_
        refine wp_seq ?_
        refine Wk.reg ?_
        refine Wk.rPure 0 (some 26) (.slice A1 N c1) rfl rfl (by kernel_rfl) (by kernel_rfl) ?_
        refine Wk.rPure 1 (some 6) (.slice A1 N c1) rfl rfl (by kernel_rfl) (by kernel_rfl) ?_
        refine Wk.rEnd 2 rfl ?_
        refine Wk.nxt ?_
        refine wp_ret ?_
        have hN64 : N = 64 := by omega
        subst hN64
        obtain ⟨q, rfl, hqb, hql⟩ := Mur.Own8.some hO (by omega)
        refine Wk.ret (.slice (some ⟨q, 0, none⟩) 64 c1) rfl (by kernel_rfl) ?_
        exact ⟨q, c1, _, Go.Lib.hid (Mur.rkey_small HBY.out.1 (by omega) (by omega)), (by simp only [List.length_append, List.length_replicate]; have := HBY.out.1; omega), rfl, hO.byt, ⟨by omega, by omega⟩, HB⟩
theorem TagBy_any (hc kc : Array Value) (Hh : Hid (hc = stCells Mur.H0)) (Hk : Hid (kc = Mur.u32s Mur.K)) (s : List UInt8) (A : Option Addr) (n c : Nat) (b : List UInt8) (B : Option Addr) (m d : Nat) (w : World) (hb : Byt w A n s) (hnc : n ≤ c) (ha : A = none → c = 0) (hn : n ≤ 140737488351232) (hb2 : Byt w B m b) (ha2 : B = none → d = 0) (hn2 : m ≤ 140737488351000) : Calls Tryd.prog 31 #[.agg hc, .agg kc, .slice A n c, .slice B m d] w fun e w' => ∃ d, Hid (d = Mur.hmac s b) ∧ d.length = 32 ∧ e = .returned (.agg (b8s d).toArray) ∧ Wk.Chg [] w w' := by
  have hcs := hc_size Hh.out
  have kcs := kc_size Hk.out
  have HBY := Go.Lib.hid hb
  clear hb
  have HA := Go.Lib.hid ha
  clear ha
  have HB2 := Go.Lib.hid hb2
  clear hb2
  have HA2 := Go.Lib.hid ha2
  clear ha2
  refine calls_of_wp Tryd.func31 rfl ?_
  refine wp_seq ?_
  refine Wk.reg ?_
  refine Wk.rEx 0 (some 4) _ rfl rfl (by kernel_rfl) (Wk.new_ex (.pointer (some ⟨w.heap.size, 0, none⟩)) hc 60 (by kernel_rfl)) ?_
  rintro _ W1 ⟨rfl, hb1, ch1, sz1⟩
  have zz1 := ch1.size
  refine Wk.rEx 1 (some 5) _ rfl rfl (by kernel_rfl) (Wk.new_ex (.pointer (some ⟨W1.heap.size, 0, none⟩)) kc 61 (by kernel_rfl)) ?_
  rintro _ W2 ⟨rfl, hb2, ch2, sz2⟩
  have zz2 := ch2.size
  refine Wk.rEx 2 (some 8) _ rfl rfl (by kernel_rfl) (Wk.new_ex (.pointer (some ⟨W2.heap.size, 0, none⟩)) #[.int .u8 0, .int .u8 0, .int .u8 0, .int .u8 0, .int .u8 0, .int .u8 0, .int .u8 0, .int .u8 0, .int .u8 0, .int .u8 0, .int .u8 0, .int .u8 0, .int .u8 0, .int .u8 0, .int .u8 0, .int .u8 0, .int .u8 0, .int .u8 0, .int .u8 0, .int .u8 0, .int .u8 0, .int .u8 0, .int .u8 0, .int .u8 0, .int .u8 0, .int .u8 0, .int .u8 0, .int .u8 0, .int .u8 0, .int .u8 0, .int .u8 0, .int .u8 0] 25 (by kernel_rfl)) ?_
  rintro _ W3 ⟨rfl, hb3, ch3, sz3⟩
  have zz3 := ch3.size
  refine Wk.rEnd 3 rfl ?_
  refine Wk.nxt ?_
  refine wp_seq ?_
  refine Wk.reg ?_
  refine Wk.rPure 0 (some 14) (.agg hc) rfl rfl (by kernel_rfl) (Mur.loadArr 60 (.tmp 4) rfl _ Tryd.underlying60 rfl w.heap.size (by kernel_rfl) hc 8 hcs.1 (by kernel_rfl) 60 (0, 0) (Wk.Chg.hp ch3 (Wk.Chg.hp ch2 hb1 trivial) trivial)) ?_
  refine Wk.rPure 1 (some 15) (.agg kc) rfl rfl (by kernel_rfl) (Mur.loadArr 61 (.tmp 5) rfl _ Tryd.underlying61 rfl W1.heap.size (by kernel_rfl) kc 64 kcs.1 (by kernel_rfl) 61 (0, 0) (Wk.Chg.hp ch3 hb2 trivial)) ?_
  refine Wk.rPure 2 (some 16) (.slice A n c) rfl rfl (by kernel_rfl) (by kernel_rfl) ?_
  refine Wk.rCall 3 (some 17) 40 [.tmp 14, .tmp 15, .tmp 16] #[60, 61, 22] [.agg hc, .agg kc, .slice A n c] rfl rfl (by kernel_rfl) rfl (by kernel_rfl) (by kernel_rfl) ?_
  have kk1 : Wk.Chg [] w W1 := Wk.Chg.step ((Wk.Chg.refl _).more (by simp)) ch1 trivial
  have kk2 := Wk.Chg.step kk1 ch2 trivial
  have kk3 := Wk.Chg.step kk2 ch3 trivial
  refine (Rkey_any hc kc Hh Hk s A n c W3 (Mur.byt_chg HBY.out kk3 (fun g off e hl => trivial)) (by omega) HA.out (by omega)).mono ?_
  rintro _ W4 ⟨qk1, ck1, KK1, hK1, hKl1, rfl, hKB1, hq1, ch4⟩
  have zz4 := ch4.size
  have hKt1 : ∀ g off, (some ⟨qk1, 0, none⟩ : Option Addr) = some ⟨g, off, none⟩ → W3.heap.size ≤ g ∧ g < W4.heap.size := fun g off e => by cases e; exact hq1
  refine ⟨_, rfl, ?_⟩
  refine Wk.rPure 4 (some 9) (.slice (some ⟨qk1, 0, none⟩) 64 ck1) rfl rfl (by kernel_rfl) (by kernel_rfl) ?_
  refine Wk.rEnd 5 rfl ?_
  refine Wk.nxt ?_
  refine wp_seq ?_
  refine Wk.reg ?_
  refine Wk.rPure 0 (some 10) (.slice none 0 0) rfl rfl (by kernel_rfl) (by kernel_rfl) ?_
  refine Wk.rPure 1 (some 11) (.slice none 0 0) rfl rfl (by kernel_rfl) (by kernel_rfl) ?_
  refine Wk.rEnd 2 rfl ?_
  refine Wk.nxt ?_
  refine wp_seq ?_
  refine wp_seq ?_
  refine Wk.reg ?_
  refine Wk.rPure 0 (some 12) (.int .i64 0) rfl rfl (by kernel_rfl) (by kernel_rfl) ?_
  refine Wk.rEnd 1 rfl ?_
  refine Wk.nxt ?_
  refine wp_block ?_
  refine Wk.loop (fun m_ a wr => ∃ (i : Nat) (A1 : Option Addr) (c1 : Nat) (A2 : Option Addr) (c2 : Nat), m_ = 64 - i ∧ a = TagBy_F1 a.tmps (.slice B m d) (.pointer (some ⟨w.heap.size, 0, none⟩)) (.pointer (some ⟨W1.heap.size, 0, none⟩)) (.pointer (some ⟨W2.heap.size, 0, none⟩)) (.slice (some ⟨qk1, 0, none⟩) 64 ck1) (.slice A1 i c1) (.slice A2 i c2) (.int .i64 ((i : Nat) : Int)) ∧ i ≤ 64 ∧ Own8 wr W4.heap.size 5 A1 i c1 (Mur.xorl 54 (KK1.take i)) ∧ Own8 wr W4.heap.size 5 A2 i c2 (Mur.xorl 92 (KK1.take i)) ∧ (∀ q, (Value.slice A1 i c1).ownBlock = some q → (Value.slice A2 i c2).ownBlock ≠ some q) ∧ Byt wr (some ⟨qk1, 0, none⟩) 64 KK1 ∧ wr.heap[w.heap.size]? = some (.cells hc 60 (0, 0)) ∧ wr.heap[W1.heap.size]? = some (.cells kc 61 (0, 0)) ∧ wr.heap[W2.heap.size]? = some (.cells #[.int .u8 0, .int .u8 0, .int .u8 0, .int .u8 0, .int .u8 0, .int .u8 0, .int .u8 0, .int .u8 0, .int .u8 0, .int .u8 0, .int .u8 0, .int .u8 0, .int .u8 0, .int .u8 0, .int .u8 0, .int .u8 0, .int .u8 0, .int .u8 0, .int .u8 0, .int .u8 0, .int .u8 0, .int .u8 0, .int .u8 0, .int .u8 0, .int .u8 0, .int .u8 0, .int .u8 0, .int .u8 0, .int .u8 0, .int .u8 0, .int .u8 0, .int .u8 0] 25 (0, 0)) ∧ Wk.Chg [] w wr ∧ W4.heap.size ≤ wr.heap.size) (64 - 0) ?_ ?_
  · have kk4 := Wk.Chg.step kk3 ch4 trivial
    refine ⟨0, none, 0, none, 0, rfl, by kernel_rfl, by omega, Mur.own8_nil W4 W4.heap.size 5, Mur.own8_nil W4 W4.heap.size 5, (fun q h => by cases h), hKB1, (Wk.Chg.hp ch4 (Wk.Chg.hp ch3 (Wk.Chg.hp ch2 hb1 trivial) trivial) trivial), (Wk.Chg.hp ch4 (Wk.Chg.hp ch3 hb2 trivial) trivial), (Wk.Chg.hp ch4 hb3 trivial), kk4, (by omega)⟩
  · rintro mm1 aa1 W5 ⟨i, A1, c1, A2, c2, hmm1, hF1, hi, hO1, hO2, hne, hKB, hG0, hG1, hG2, HB, hbs⟩
    generalize aa1.tmps = bb1 at hF1
    subst hF1
    have hqn1 := hO1.nc
    have hqm1 := hO1.cm
    unfold Go.maxLen at hqm1
    have hqn2 := hO2.nc
    have hqm2 := hO2.cm
    unfold Go.maxLen at hqm2
    by_cases hlt : i < 64
    · refine wp_seq ?_
      refine wp_seq ?_
      refine Wk.reg ?_
      refine Wk.rPure 0 (some 18) (.int .i64 ((i : Nat) : Int)) rfl rfl (by kernel_rfl) (by kernel_rfl) ?_
      refine Wk.rPure 1 (some 19) (.bool true) rfl rfl (by kernel_rfl) (Wk.boolT (b := decide (((i : Nat) : Int) < (64 : Int))) (decide_eq_true (by omega)) (by kernel_rfl)) ?_
      refine Wk.rEnd 2 rfl ?_
      refine Wk.nxt ?_
      refine wp_cond_true (by kernel_rfl) ?_
      refine wp_skip ?_
      refine Wk.nxt ?_
      refine wp_seq ?_
      refine wp_block ?_
      refine wp_seq ?_
      refine Wk.reg ?_
      refine Wk.rPure 0 (some 22) (.slice A1 i c1) rfl rfl (by kernel_rfl) (by kernel_rfl) ?_
      refine Wk.rPure 1 (some 23) (.slice (some ⟨qk1, 0, none⟩) 64 ck1) rfl rfl (by kernel_rfl) (by kernel_rfl) ?_
      refine Wk.rPure 2 (some 24) (.int .i64 ((i : Nat) : Int)) rfl rfl (by kernel_rfl) (by kernel_rfl) ?_
      refine Wk.rPure 3 (some 25) (.pointer (some ⟨qk1, 0 + i * 1, none⟩)) rfl rfl (by kernel_rfl) (Wk.index_sl 22 5 (.tmp 23) (.tmp 24) rfl Tryd.underlying22 1 (by kernel_rfl) qk1 0 64 ck1 i .i64 (by kernel_rfl) (by kernel_rfl) (by omega)) ?_
      refine Wk.rPure 4 (some 26) (.int .u8 (((KK1.getD i 0).toNat : Nat) : Int)) rfl rfl (by kernel_rfl) (Wk.load1 5 (.tmp 25) rfl (by kernel_rfl) ⟨qk1, 0 + i * 1, none⟩ (by kernel_rfl) (.int .u8 (((KK1.getD i 0).toNat : Nat) : Int)) (Mur.byt_cell hKB i (by omega))) ?_
      refine Wk.rPure 5 (some 27) (.int .u8 ((((KK1.getD i 0) ^^^ (54 : UInt8)).toNat : Nat) : Int)) rfl rfl (by kernel_rfl) (Mur.xor8 5 5 (.tmp 26) (.const (.int .u8 54)) rfl (KK1.getD i 0) (54 : UInt8) (by kernel_rfl) (by kernel_rfl)) ?_
      refine Wk.rEx 6 (some 28) _ rfl rfl (by kernel_rfl) (Wk.new_ex (.slice (some ⟨W5.heap.size, 0, none⟩) 1 1) #[.int .u8 ((((KK1.getD i 0) ^^^ (54 : UInt8)).toNat : Nat) : Int)] 5 (by kernel_rfl)) ?_
      rintro _ W6 ⟨rfl, hb4, ch5, sz4⟩
      have zz5 := ch5.size
      have ow1 := Mur.own8 (Wk.own_chg hO1.own ch5 (fun q e _ _ => trivial))
      refine Wk.rEx 7 (some 29) _ rfl rfl (by kernel_rfl) (Mur.append8 (.tmp 22) (.tmp 28) 22 5 rfl Tryd.underlying22 (by kernel_rfl) W4.heap.size A1 i c1 (Mur.xorl 54 (KK1.take i)) (some ⟨W5.heap.size, 0, none⟩) 1 1 ([((KK1.getD i 0) ^^^ (54 : UInt8))]) (by kernel_rfl) (by kernel_rfl) ow1.own (Mur.byt_row [((KK1.getD i 0) ^^^ (54 : UInt8))] hb4) (fun h => by cases h) (by omega) (by omega) (i + 1) (by omega) ((Mur.xorl 54 (KK1.take i)) ++ ([((KK1.getD i 0) ^^^ (54 : UInt8))])) rfl) ?_
      rintro _ W7 ⟨AA1, nn1, rfl, ow2, ch6, ha1⟩
      have zz6 := ch6.size
      have hq3 := ow2.nc
      have hq4 := ow2.cm
      refine Wk.rPure 8 (some 10) (.slice AA1 (i + 1) nn1) rfl rfl (by kernel_rfl) (by kernel_rfl) ?_
      refine Wk.rEnd 9 rfl ?_
      refine Wk.nxt ?_
      refine Wk.reg ?_
      have hne2 : ∀ q, (Value.slice AA1 (i + 1) nn1).ownBlock = some q → (Value.slice A2 i c2).ownBlock ≠ some q := fun q h1 h2 => by
        rcases ha1 q h1 with h | h
        · exact hne q h h2
        · have := hO2.lt q h2; omega
      refine Wk.rPure 0 (some 30) (.slice A2 i c2) rfl rfl (by kernel_rfl) (by kernel_rfl) ?_
      refine Wk.rPure 1 (some 31) (.slice (some ⟨qk1, 0, none⟩) 64 ck1) rfl rfl (by kernel_rfl) (by kernel_rfl) ?_
      refine Wk.rPure 2 (some 32) (.int .i64 ((i : Nat) : Int)) rfl rfl (by kernel_rfl) (by kernel_rfl) ?_
      refine Wk.rPure 3 (some 33) (.pointer (some ⟨qk1, 0 + i * 1, none⟩)) rfl rfl (by kernel_rfl) (Wk.index_sl 22 5 (.tmp 31) (.tmp 32) rfl Tryd.underlying22 1 (by kernel_rfl) qk1 0 64 ck1 i .i64 (by kernel_rfl) (by kernel_rfl) (by omega)) ?_
      refine Wk.rPure 4 (some 34) (.int .u8 (((KK1.getD i 0).toNat : Nat) : Int)) rfl rfl (by kernel_rfl) (Wk.load1 5 (.tmp 33) rfl (by kernel_rfl) ⟨qk1, 0 + i * 1, none⟩ (by kernel_rfl) (.int .u8 (((KK1.getD i 0).toNat : Nat) : Int)) (Mur.byt_cell (Mur.byt_chg (Mur.byt_chg hKB ch5 (fun g off e hl => trivial)) ch6 (fun g off e hl => (Wk.off_blk (fun gz hgz => by have := hO1.lt gz hgz; have := hKt1 g off e; omega)))) i (by omega))) ?_
      refine Wk.rPure 5 (some 35) (.int .u8 ((((KK1.getD i 0) ^^^ (92 : UInt8)).toNat : Nat) : Int)) rfl rfl (by kernel_rfl) (Mur.xor8 5 5 (.tmp 34) (.const (.int .u8 92)) rfl (KK1.getD i 0) (92 : UInt8) (by kernel_rfl) (by kernel_rfl)) ?_
      refine Wk.rEx 6 (some 36) _ rfl rfl (by kernel_rfl) (Wk.new_ex (.slice (some ⟨W7.heap.size, 0, none⟩) 1 1) #[.int .u8 ((((KK1.getD i 0) ^^^ (92 : UInt8)).toNat : Nat) : Int)] 5 (by kernel_rfl)) ?_
      rintro _ W8 ⟨rfl, hb5, ch7, sz5⟩
      have zz7 := ch7.size
      have ow3 := Mur.own8 (Wk.own_chg ow2.own ch7 (fun q e _ _ => trivial))
      have ow4 := Mur.own8 (Wk.own_chg hO2.own ch5 (fun q e _ _ => trivial))
      have ow5 := Mur.own8 (Wk.own_chg ow4.own ch6 (fun q e _ _ => (Wk.off_blk (fun g hg h => hne g hg (h ▸ e)))))
      have ow6 := Mur.own8 (Wk.own_chg ow5.own ch7 (fun q e _ _ => trivial))
      refine Wk.rEx 7 (some 37) _ rfl rfl (by kernel_rfl) (Mur.append8 (.tmp 30) (.tmp 36) 22 5 rfl Tryd.underlying22 (by kernel_rfl) W4.heap.size A2 i c2 (Mur.xorl 92 (KK1.take i)) (some ⟨W7.heap.size, 0, none⟩) 1 1 ([((KK1.getD i 0) ^^^ (92 : UInt8))]) (by kernel_rfl) (by kernel_rfl) ow6.own (Mur.byt_row [((KK1.getD i 0) ^^^ (92 : UInt8))] hb5) (fun h => by cases h) (by omega) (by omega) (i + 1) (by omega) ((Mur.xorl 92 (KK1.take i)) ++ ([((KK1.getD i 0) ^^^ (92 : UInt8))])) rfl) ?_
      rintro _ W9 ⟨AA2, nn2, rfl, ow7, ch8, ha2⟩
      have zz8 := ch8.size
      have hq5 := ow7.nc
      have hq6 := ow7.cm
      refine Wk.rPure 8 (some 11) (.slice AA2 (i + 1) nn2) rfl rfl (by kernel_rfl) (by kernel_rfl) ?_
      refine Wk.rEnd 9 rfl ?_
      refine Wk.inN ?_
      refine Wk.nxt ?_
      refine Wk.reg ?_
      refine Wk.rPure 0 (some 20) (.int .i64 ((i : Nat) : Int)) rfl rfl (by kernel_rfl) (by kernel_rfl) ?_
      refine Wk.rPure 1 (some 21) (.int .i64 ((i + 1 : Nat) : Int)) rfl rfl (by kernel_rfl) (Wk.int64 (n := ((i : Nat) : Int) + 1) (z := ((i + 1 : Nat) : Int)) (by omega) (by omega) (by omega) (by kernel_rfl)) ?_
      refine Wk.rPure 2 (some 12) (.int .i64 ((i + 1 : Nat) : Int)) rfl rfl (by kernel_rfl) (by kernel_rfl) ?_
      refine Wk.rEnd 3 rfl ?_
      refine Wk.nxt ?_
      have ow8 := Mur.own8 (Wk.own_chg ow3.own ch8 (fun q e _ _ => (Wk.off_blk (fun g hg h => hne2 g (h ▸ e) hg))))
      have kk5 := Wk.Chg.step HB ch5 trivial
      have kk6 := Wk.Chg.step kk5 ch6 (Wk.newOr_blk (fun g hg => by have := hO1.lt g hg; omega))
      have kk7 := Wk.Chg.step kk6 ch7 trivial
      have kk8 := Wk.Chg.step kk7 ch8 (Wk.newOr_blk (fun g hg => by have := hO2.lt g hg; omega))
      refine ⟨_, ?_, i + 1, AA1, nn1, AA2, nn2, rfl, by kernel_rfl, (by omega), (by rw [Mur.xorl_succ _ KK1 i (by omega)]; exact ow8), (by rw [Mur.xorl_succ _ KK1 i (by omega)]; exact ow7), (fun q h1 h2 => by
        have l1 := ow8.lt q h1
        rcases ha2 q h2 with k | k
        · exact hne2 q h1 k
        · rcases ha1 q h1 with h | h
          · have := hO1.lt q h; omega
          · have := ow3.lt q h1; omega), (Mur.byt_chg (Mur.byt_chg (Mur.byt_chg (Mur.byt_chg hKB ch5 (fun g off e hl => trivial)) ch6 (fun g off e hl => (Wk.off_blk (fun gz hgz => by have := hO1.lt gz hgz; have := hKt1 g off e; omega)))) ch7 (fun g off e hl => trivial)) ch8 (fun g off e hl => (Wk.off_blk (fun gz hgz => by have := hO2.lt gz hgz; have := hKt1 g off e; omega)))), (Wk.Chg.hp ch8 (Wk.Chg.hp ch7 (Wk.Chg.hp ch6 (Wk.Chg.hp ch5 hG0 trivial) (Wk.off_blk (fun gz hgz => by have := hO1.lt gz hgz; omega))) trivial) (Wk.off_blk (fun gz hgz => by have := hO2.lt gz hgz; omega))), (Wk.Chg.hp ch8 (Wk.Chg.hp ch7 (Wk.Chg.hp ch6 (Wk.Chg.hp ch5 hG1 trivial) (Wk.off_blk (fun gz hgz => by have := hO1.lt gz hgz; omega))) trivial) (Wk.off_blk (fun gz hgz => by have := hO2.lt gz hgz; omega))), (Wk.Chg.hp ch8 (Wk.Chg.hp ch7 (Wk.Chg.hp ch6 (Wk.Chg.hp ch5 hG2 trivial) (Wk.off_blk (fun gz hgz => by have := hO1.lt gz hgz; omega))) trivial) (Wk.off_blk (fun gz hgz => by have := hO2.lt gz hgz; omega))), kk8, (by omega)⟩
      · omega
    · obtain rfl : i = 64 := by omega
      have hft : KK1.take 64 = KK1 := List.take_of_length_le (by rw [hKl1]; exact Nat.le_refl _)
      rw [hft] at hO1 hO2
      refine wp_seq ?_
      refine wp_seq ?_
      refine Wk.reg ?_
      refine Wk.rPure 0 (some 18) (.int .i64 ((64 : Nat) : Int)) rfl rfl (by kernel_rfl) (by kernel_rfl) ?_
      refine Wk.rPure 1 (some 19) (.bool false) rfl rfl (by kernel_rfl) (Wk.boolF (b := decide (((64 : Nat) : Int) < (64 : Int))) (decide_eq_false (by omega)) (by kernel_rfl)) ?_
      refine Wk.rEnd 2 rfl ?_
      refine Wk.nxt ?_
      refine wp_cond_false (by kernel_rfl) ?_
      refine wp_exit ?_
      refine Wk.thX ?_
      refine Wk.thX ?_
      refine Wk.inX ?_
      refine Wk.nxt ?_
      refine wp_seq ?_
      refine Wk.dReg (Wk.blk (.slice A1 64 c1)) (by kernel_rfl) ?_
      intro W10 ch9 sz6
      have zz9 := ch9.size
      have sS1 : Wk.Chg (Wk.blk (.slice A1 64 c1)) W10 W10 := (Wk.Chg.refl _).more (by simp)
      refine Wk.dVal 0 (some 38) (.agg hc) rfl rfl (by kernel_rfl) (by kernel_rfl) (by kernel_rfl) (fun _ _ _ h => h) (by kernel_rfl) (fun w' hw' => (Mur.loadArr 60 (.tmp 4) rfl _ Tryd.underlying60 rfl w.heap.size (by kernel_rfl) hc 8 hcs.1 (by kernel_rfl) 60 (0, 0) (Wk.Chg.hp hw' (Wk.Chg.hp ch9 hG0 trivial) (Wk.off_blk (fun gz hgz => by have := hO1.lt gz hgz; omega))))) sS1 ?_
      refine Wk.dVal 1 (some 39) (.agg kc) rfl rfl (by kernel_rfl) (by kernel_rfl) (by kernel_rfl) (fun _ _ _ h => h) (by kernel_rfl) (fun w' hw' => (Mur.loadArr 61 (.tmp 5) rfl _ Tryd.underlying61 rfl W1.heap.size (by kernel_rfl) kc 64 kcs.1 (by kernel_rfl) 61 (0, 0) (Wk.Chg.hp hw' (Wk.Chg.hp ch9 hG1 trivial) (Wk.off_blk (fun gz hgz => by have := hO1.lt gz hgz; omega))))) sS1 ?_
      refine Wk.dVal 2 (some 40) (.slice A1 64 c1) rfl rfl (by kernel_rfl) (by kernel_rfl) (by kernel_rfl) (fun _ _ _ h => h) (by kernel_rfl) (fun w' hw' => by kernel_rfl) sS1 ?_
      refine Wk.dVal 3 (some 41) (.slice B m d) rfl rfl (by kernel_rfl) (by kernel_rfl) (by kernel_rfl) (fun _ _ _ h => h) (by kernel_rfl) (fun w' hw' => by kernel_rfl) sS1 ?_
      refine Wk.dOp2 4 6 (by kernel_rfl) ?_ ?_
      · have ow9 := Mur.own8 (Wk.own_chg hO1.own ch9 (fun q e _ _ => trivial))
        have kk9 := Wk.Chg.step HB ch9 trivial
        refine Wk.oEx (some 42) _ rfl rfl (by kernel_rfl) (Mur.append8 (.tmp 40) (.tmp 41) 22 5 rfl Tryd.underlying22 (by kernel_rfl) W4.heap.size A1 64 c1 (Mur.xorl 54 KK1) B m d b (by kernel_rfl) (by kernel_rfl) ow9.own (Mur.byt_chg HB2.out kk9 (fun g off e hl => trivial)) HA2.out (by omega) (by omega) (64 + m) (by omega) ((Mur.xorl 54 KK1) ++ b) rfl) ?_
        rintro _ W11 ⟨AA3, nn3, rfl, ow10, ch10, ha3⟩
        have zz10 := ch10.size
        have hq7 := ow10.nc
        have hq8 := ow10.cm
        have sS2 := Wk.Chg.step sS1 ch10 (Mur.newOr_iff.2 (fun t ht => .inl ht))
        refine ⟨sS2, ?_⟩
        refine Wk.dOp2 5 6 (by kernel_rfl) ?_ ?_
        · refine Wk.oCall (some 43) 41 [.tmp 38, .tmp 39, .tmp 42] #[60, 61, 22] [.agg hc, .agg kc, .slice AA3 (64 + m) nn3] rfl rfl (by kernel_rfl) rfl (by kernel_rfl) (by kernel_rfl) ?_
          refine (Rsum_var hc kc Hh Hk ((Mur.xorl 54 KK1) ++ b) AA3 (64 + m) nn3 W11 ow10.byt (by omega) ow10.nil (by omega)).mono ?_
          rintro _ W12 ⟨dd1, hd1, hdl1, rfl, hB1⟩
          have ch11 := Wk.Chg.ofBelow hB1
          have zz11 := ch11.size
          have sS3 := Wk.Chg.step sS2 ch11 trivial
          refine ⟨_, rfl, sS3, ?_⟩
          refine Wk.dOp 6 (by kernel_rfl) ?_
          refine Wk.oEx (some 13) _ rfl rfl (by kernel_rfl) (Wk.new_ex (.pointer (some ⟨W12.heap.size, 0, none⟩)) #[.int .u8 0, .int .u8 0, .int .u8 0, .int .u8 0, .int .u8 0, .int .u8 0, .int .u8 0, .int .u8 0, .int .u8 0, .int .u8 0, .int .u8 0, .int .u8 0, .int .u8 0, .int .u8 0, .int .u8 0, .int .u8 0, .int .u8 0, .int .u8 0, .int .u8 0, .int .u8 0, .int .u8 0, .int .u8 0, .int .u8 0, .int .u8 0, .int .u8 0, .int .u8 0, .int .u8 0, .int .u8 0, .int .u8 0, .int .u8 0, .int .u8 0, .int .u8 0] 25 (by kernel_rfl)) ?_
          rintro _ W13 ⟨rfl, hb6, ch12, sz7⟩
          have zz12 := ch12.size
          have sS4 := Wk.Chg.step sS3 ch12 trivial
          refine ⟨sS4, ?_⟩
          refine Wk.dOp 7 (by kernel_rfl) ?_
          refine Wk.oExS none _ rfl rfl (by kernel_rfl) (Mur.storeAll 25 (.tmp 13) (.tmp 43) rfl W12.heap.size (by kernel_rfl) dd1 32 hdl1 (by kernel_rfl) (by kernel_rfl) 25 #[.int .u8 0, .int .u8 0, .int .u8 0, .int .u8 0, .int .u8 0, .int .u8 0, .int .u8 0, .int .u8 0, .int .u8 0, .int .u8 0, .int .u8 0, .int .u8 0, .int .u8 0, .int .u8 0, .int .u8 0, .int .u8 0, .int .u8 0, .int .u8 0, .int .u8 0, .int .u8 0, .int .u8 0, .int .u8 0, .int .u8 0, .int .u8 0, .int .u8 0, .int .u8 0, .int .u8 0, .int .u8 0, .int .u8 0, .int .u8 0, .int .u8 0, .int .u8 0] hb6 rfl) ?_
          rintro W14 ⟨hb7, ch13⟩
          have zz13 := ch13.size
          have sS5 := Wk.Chg.step sS4 ch13 ⟨.inr (by omega), trivial⟩
          refine ⟨sS5, ?_⟩
          refine Wk.dEnd (by kernel_rfl) ?_
          refine Wk.nxt ?_
          refine wp_seq ?_
          refine Wk.dReg ([W2.heap.size] ++ Wk.blk (.slice A2 64 c2)) (by kernel_rfl) ?_
          intro W15 ch14 sz8
          have zz14 := ch14.size
          have sS6 : Wk.Chg ([W2.heap.size] ++ Wk.blk (.slice A2 64 c2)) W15 W15 := (Wk.Chg.refl _).more (by simp)
          refine Wk.dVal 0 (some 44) (.agg hc) rfl rfl (by kernel_rfl) (by kernel_rfl) (by kernel_rfl) (fun _ _ _ h => h) (by kernel_rfl) (fun w' hw' => (Mur.loadArr 60 (.tmp 4) rfl _ Tryd.underlying60 rfl w.heap.size (by kernel_rfl) hc 8 hcs.1 (by kernel_rfl) 60 (0, 0) (Wk.Chg.hp hw' (Wk.Chg.hp ch14 (Wk.Chg.hp ch13 (Wk.Chg.hp ch12 (Wk.Chg.hp ch11 (Wk.Chg.hp ch10 (Wk.Chg.hp ch9 hG0 trivial) (Wk.off_blk (fun gz hgz => by have := hO1.lt gz hgz; omega))) trivial) trivial) ⟨by omega, trivial⟩) trivial) ⟨by omega, (Wk.off_blk (fun gz hgz => by have := hO2.lt gz hgz; omega))⟩))) sS6 ?_
          refine Wk.dVal 1 (some 45) (.agg kc) rfl rfl (by kernel_rfl) (by kernel_rfl) (by kernel_rfl) (fun _ _ _ h => h) (by kernel_rfl) (fun w' hw' => (Mur.loadArr 61 (.tmp 5) rfl _ Tryd.underlying61 rfl W1.heap.size (by kernel_rfl) kc 64 kcs.1 (by kernel_rfl) 61 (0, 0) (Wk.Chg.hp hw' (Wk.Chg.hp ch14 (Wk.Chg.hp ch13 (Wk.Chg.hp ch12 (Wk.Chg.hp ch11 (Wk.Chg.hp ch10 (Wk.Chg.hp ch9 hG1 trivial) (Wk.off_blk (fun gz hgz => by have := hO1.lt gz hgz; omega))) trivial) trivial) ⟨by omega, trivial⟩) trivial) ⟨by omega, (Wk.off_blk (fun gz hgz => by have := hO2.lt gz hgz; omega))⟩))) sS6 ?_
          refine Wk.dVal 2 (some 46) (.slice A2 64 c2) rfl rfl (by kernel_rfl) (by kernel_rfl) (by kernel_rfl) (fun _ _ _ h => h) (by kernel_rfl) (fun w' hw' => by kernel_rfl) sS6 ?_
          refine Wk.dVal 3 (some 47) (.slice (some ⟨W12.heap.size, 0, none⟩) 32 32) rfl rfl (by kernel_rfl) (by kernel_rfl) (by kernel_rfl) (fun _ _ _ h => h) (by kernel_rfl) (fun w' hw' => (Mur.arr_slice 25 5 (.tmp 13) 32 rfl Tryd.underlying25 (by kernel_rfl) W12.heap.size (by kernel_rfl))) sS6 ?_
          refine Wk.dOp 4 (by kernel_rfl) ?_
          have ow11 := Mur.own8 (Wk.own_chg hO2.own ch9 (fun q e _ _ => trivial))
          have ow12 := Mur.own8 (Wk.own_chg ow11.own ch10 (fun q e _ _ => (Wk.off_blk (fun g hg h => hne g hg (h ▸ e)))))
          have ow13 := Mur.own8 (Wk.own_chg ow12.own ch11 (fun q e _ _ => trivial))
          have ow14 := Mur.own8 (Wk.own_chg ow13.own ch12 (fun q e _ _ => trivial))
          have ow15 := Mur.own8 (Wk.own_chg ow14.own ch13 (fun q e _ _ => ⟨by have := hO2.lt q e; omega, trivial⟩))
          have ow16 := Mur.own8 (Wk.own_chg ow15.own ch14 (fun q e _ _ => trivial))
          refine Wk.oEx (some 48) _ rfl rfl (by kernel_rfl) (Mur.append8 (.tmp 46) (.tmp 47) 22 5 rfl Tryd.underlying22 (by kernel_rfl) W4.heap.size A2 64 c2 (Mur.xorl 92 KK1) (some ⟨W12.heap.size, 0, none⟩) 32 32 dd1 (by kernel_rfl) (by kernel_rfl) ow16.own (Mur.byt_blk dd1 hdl1 (Wk.Chg.hp ch14 hb7 trivial)) (fun h => by cases h) (by omega) (by omega) 96 (by omega) ((Mur.xorl 92 KK1) ++ dd1) rfl) ?_
          rintro _ W16 ⟨AA4, nn4, rfl, ow17, ch15, ha4⟩
          have zz15 := ch15.size
          have hq9 := ow17.nc
          have hq10 := ow17.cm
          have sS7 := Wk.Chg.step sS6 ch15 (Mur.newOr_iff.2 (fun t ht => .inl (List.mem_append_right _ ht)))
          refine ⟨sS7, ?_⟩
          refine Wk.dOp 5 (by kernel_rfl) ?_
          refine Wk.oCall (some 49) 41 [.tmp 44, .tmp 45, .tmp 48] #[60, 61, 22] [.agg hc, .agg kc, .slice AA4 96 nn4] rfl rfl (by kernel_rfl) rfl (by kernel_rfl) (by kernel_rfl) ?_
          refine (Rsum_var hc kc Hh Hk ((Mur.xorl 92 KK1) ++ dd1) AA4 96 nn4 W16 ow17.byt (by omega) ow17.nil (by omega)).mono ?_
          rintro _ W17 ⟨dd2, hd2, hdl2, rfl, hB2⟩
          have ch16 := Wk.Chg.ofBelow hB2
          have zz16 := ch16.size
          have sS8 := Wk.Chg.step sS7 ch16 trivial
          refine ⟨_, rfl, sS8, ?_⟩
          refine Wk.dOp 6 (by kernel_rfl) ?_
          refine Wk.oExS none _ rfl rfl (by kernel_rfl) (Mur.storeAll 25 (.tmp 8) (.tmp 49) rfl W2.heap.size (by kernel_rfl) dd2 32 hdl2 (by kernel_rfl) (by kernel_rfl) 25 #[.int .u8 0, .int .u8 0, .int .u8 0, .int .u8 0, .int .u8 0, .int .u8 0, .int .u8 0, .int .u8 0, .int .u8 0, .int .u8 0, .int .u8 0, .int .u8 0, .int .u8 0, .int .u8 0, .int .u8 0, .int .u8 0, .int .u8 0, .int .u8 0, .int .u8 0, .int .u8 0, .int .u8 0, .int .u8 0, .int .u8 0, .int .u8 0, .int .u8 0, .int .u8 0, .int .u8 0, .int .u8 0, .int .u8 0, .int .u8 0, .int .u8 0, .int .u8 0] (Wk.Chg.hp ch16 (Wk.Chg.hp ch15 (Wk.Chg.hp ch14 (Wk.Chg.hp ch13 (Wk.Chg.hp ch12 (Wk.Chg.hp ch11 (Wk.Chg.hp ch10 (Wk.Chg.hp ch9 hG2 trivial) (Wk.off_blk (fun gz hgz => by have := hO1.lt gz hgz; omega))) trivial) trivial) ⟨by omega, trivial⟩) trivial) (Wk.off_blk (fun gz hgz => by have := hO2.lt gz hgz; omega))) trivial) rfl) ?_
          rintro W18 ⟨hb8, ch17⟩
          have zz17 := ch17.size
          have sS9 := Wk.Chg.step sS8 ch17 ⟨.inl (by simp), trivial⟩
          refine ⟨sS9, ?_⟩
          refine Wk.dEnd (by kernel_rfl) ?_
          refine Wk.nxt ?_
          refine wp_ret ?_
          have kk10 := Wk.Chg.step kk9 ch10 (Wk.newOr_blk (fun g hg => by have := hO1.lt g hg; omega))
          have kk11 := Wk.Chg.step kk10 ch11 trivial
          have kk12 := Wk.Chg.step kk11 ch12 trivial
          have kk13 := Wk.Chg.step kk12 ch13 ⟨.inr (by omega), trivial⟩
          have kk14 := Wk.Chg.step kk13 ch14 trivial
          have kk15 := Wk.Chg.step kk14 ch15 (Wk.newOr_blk (fun g hg => by have := hO2.lt g hg; omega))
          have kk16 := Wk.Chg.step kk15 ch16 trivial
          have kk17 := Wk.Chg.step kk16 ch17 ⟨.inr (by omega), trivial⟩
          refine Wk.ret (.agg (b8s dd2).toArray) rfl (results_cell_row rfl _ _ W2.heap.size 25 (b8s dd2).toArray (0, 0) _ (by kernel_rfl) hb8 Tryd.underlying25 rfl (by rw [List.size_toArray, Mur.b8s_length, hdl2]; kernel_rfl)) ?_
          exact ⟨_, Go.Lib.hid (by unfold Mur.hmac; rw [hd2.out, hd1.out, hK1.out]), hdl2, rfl, kk17⟩
        · refine Wk.oEx (some 13) _ rfl rfl (by kernel_rfl) (Wk.new_ex (.pointer (some ⟨W11.heap.size, 0, none⟩)) #[.int .u8 0, .int .u8 0, .int .u8 0, .int .u8 0, .int .u8 0, .int .u8 0, .int .u8 0, .int .u8 0, .int .u8 0, .int .u8 0, .int .u8 0, .int .u8 0, .int .u8 0, .int .u8 0, .int .u8 0, .int .u8 0, .int .u8 0, .int .u8 0, .int .u8 0, .int .u8 0, .int .u8 0, .int .u8 0, .int .u8 0, .int .u8 0, .int .u8 0, .int .u8 0, .int .u8 0, .int .u8 0, .int .u8 0, .int .u8 0, .int .u8 0, .int .u8 0] 25 (by kernel_rfl)) ?_
          rintro _ W19 ⟨rfl, hb9, ch18, sz9⟩
          have zz18 := ch18.size
          have sS10 := Wk.Chg.step sS2 ch18 trivial
          refine ⟨sS10, ?_⟩
          refine Wk.dOp 5 (by kernel_rfl) ?_
          refine Wk.oCall (some 43) 41 [.tmp 38, .tmp 39, .tmp 42] #[60, 61, 22] [.agg hc, .agg kc, .slice AA3 (64 + m) nn3] rfl rfl (by kernel_rfl) rfl (by kernel_rfl) (by kernel_rfl) ?_
          have ow18 := Mur.own8 (Wk.own_chg ow10.own ch18 (fun q e _ _ => trivial))
          refine (Rsum_var hc kc Hh Hk ((Mur.xorl 54 KK1) ++ b) AA3 (64 + m) nn3 W19 ow18.byt (by omega) ow18.nil (by omega)).mono ?_
          rintro _ W20 ⟨dd3, hd3, hdl3, rfl, hB3⟩
          have ch19 := Wk.Chg.ofBelow hB3
          have zz19 := ch19.size
          have sS11 := Wk.Chg.step sS10 ch19 trivial
          refine ⟨_, rfl, sS11, ?_⟩
          refine Wk.dOp 7 (by kernel_rfl) ?_
          refine Wk.oExS none _ rfl rfl (by kernel_rfl) (Mur.storeAll 25 (.tmp 13) (.tmp 43) rfl W11.heap.size (by kernel_rfl) dd3 32 hdl3 (by kernel_rfl) (by kernel_rfl) 25 #[.int .u8 0, .int .u8 0, .int .u8 0, .int .u8 0, .int .u8 0, .int .u8 0, .int .u8 0, .int .u8 0, .int .u8 0, .int .u8 0, .int .u8 0, .int .u8 0, .int .u8 0, .int .u8 0, .int .u8 0, .int .u8 0, .int .u8 0, .int .u8 0, .int .u8 0, .int .u8 0, .int .u8 0, .int .u8 0, .int .u8 0, .int .u8 0, .int .u8 0, .int .u8 0, .int .u8 0, .int .u8 0, .int .u8 0, .int .u8 0, .int .u8 0, .int .u8 0] (Wk.Chg.hp ch19 hb9 trivial) rfl) ?_
          rintro W21 ⟨hb10, ch20⟩
          have zz20 := ch20.size
          have sS12 := Wk.Chg.step sS11 ch20 ⟨.inr (by omega), trivial⟩
          refine ⟨sS12, ?_⟩
          refine Wk.dEnd (by kernel_rfl) ?_
          refine Wk.nxt ?_
          refine wp_seq ?_
          refine Wk.dReg ([W2.heap.size] ++ Wk.blk (.slice A2 64 c2)) (by kernel_rfl) ?_
          intro W22 ch21 sz10
          have zz21 := ch21.size
          have sS13 : Wk.Chg ([W2.heap.size] ++ Wk.blk (.slice A2 64 c2)) W22 W22 := (Wk.Chg.refl _).more (by simp)
          refine Wk.dVal 0 (some 44) (.agg hc) rfl rfl (by kernel_rfl) (by kernel_rfl) (by kernel_rfl) (fun _ _ _ h => h) (by kernel_rfl) (fun w' hw' => (Mur.loadArr 60 (.tmp 4) rfl _ Tryd.underlying60 rfl w.heap.size (by kernel_rfl) hc 8 hcs.1 (by kernel_rfl) 60 (0, 0) (Wk.Chg.hp hw' (Wk.Chg.hp ch21 (Wk.Chg.hp ch20 (Wk.Chg.hp ch19 (Wk.Chg.hp ch18 (Wk.Chg.hp ch10 (Wk.Chg.hp ch9 hG0 trivial) (Wk.off_blk (fun gz hgz => by have := hO1.lt gz hgz; omega))) trivial) trivial) ⟨by omega, trivial⟩) trivial) ⟨by omega, (Wk.off_blk (fun gz hgz => by have := hO2.lt gz hgz; omega))⟩))) sS13 ?_
          refine Wk.dVal 1 (some 45) (.agg kc) rfl rfl (by kernel_rfl) (by kernel_rfl) (by kernel_rfl) (fun _ _ _ h => h) (by kernel_rfl) (fun w' hw' => (Mur.loadArr 61 (.tmp 5) rfl _ Tryd.underlying61 rfl W1.heap.size (by kernel_rfl) kc 64 kcs.1 (by kernel_rfl) 61 (0, 0) (Wk.Chg.hp hw' (Wk.Chg.hp ch21 (Wk.Chg.hp ch20 (Wk.Chg.hp ch19 (Wk.Chg.hp ch18 (Wk.Chg.hp ch10 (Wk.Chg.hp ch9 hG1 trivial) (Wk.off_blk (fun gz hgz => by have := hO1.lt gz hgz; omega))) trivial) trivial) ⟨by omega, trivial⟩) trivial) ⟨by omega, (Wk.off_blk (fun gz hgz => by have := hO2.lt gz hgz; omega))⟩))) sS13 ?_
          refine Wk.dVal 2 (some 46) (.slice A2 64 c2) rfl rfl (by kernel_rfl) (by kernel_rfl) (by kernel_rfl) (fun _ _ _ h => h) (by kernel_rfl) (fun w' hw' => by kernel_rfl) sS13 ?_
          refine Wk.dVal 3 (some 47) (.slice (some ⟨W11.heap.size, 0, none⟩) 32 32) rfl rfl (by kernel_rfl) (by kernel_rfl) (by kernel_rfl) (fun _ _ _ h => h) (by kernel_rfl) (fun w' hw' => (Mur.arr_slice 25 5 (.tmp 13) 32 rfl Tryd.underlying25 (by kernel_rfl) W11.heap.size (by kernel_rfl))) sS13 ?_
          refine Wk.dOp 4 (by kernel_rfl) ?_
          have ow19 := Mur.own8 (Wk.own_chg hO2.own ch9 (fun q e _ _ => trivial))
          have ow20 := Mur.own8 (Wk.own_chg ow19.own ch10 (fun q e _ _ => (Wk.off_blk (fun g hg h => hne g hg (h ▸ e)))))
          have ow21 := Mur.own8 (Wk.own_chg ow20.own ch18 (fun q e _ _ => trivial))
          have ow22 := Mur.own8 (Wk.own_chg ow21.own ch19 (fun q e _ _ => trivial))
          have ow23 := Mur.own8 (Wk.own_chg ow22.own ch20 (fun q e _ _ => ⟨by have := hO2.lt q e; omega, trivial⟩))
          have ow24 := Mur.own8 (Wk.own_chg ow23.own ch21 (fun q e _ _ => trivial))
          refine Wk.oEx (some 48) _ rfl rfl (by kernel_rfl) (Mur.append8 (.tmp 46) (.tmp 47) 22 5 rfl Tryd.underlying22 (by kernel_rfl) W4.heap.size A2 64 c2 (Mur.xorl 92 KK1) (some ⟨W11.heap.size, 0, none⟩) 32 32 dd3 (by kernel_rfl) (by kernel_rfl) ow24.own (Mur.byt_blk dd3 hdl3 (Wk.Chg.hp ch21 hb10 trivial)) (fun h => by cases h) (by omega) (by omega) 96 (by omega) ((Mur.xorl 92 KK1) ++ dd3) rfl) ?_
          rintro _ W23 ⟨AA5, nn5, rfl, ow25, ch22, ha5⟩
          have zz22 := ch22.size
          have hq11 := ow25.nc
          have hq12 := ow25.cm
          have sS14 := Wk.Chg.step sS13 ch22 (Mur.newOr_iff.2 (fun t ht => .inl (List.mem_append_right _ ht)))
          refine ⟨sS14, ?_⟩
          refine Wk.dOp 5 (by kernel_rfl) ?_
          refine Wk.oCall (some 49) 41 [.tmp 44, .tmp 45, .tmp 48] #[60, 61, 22] [.agg hc, .agg kc, .slice AA5 96 nn5] rfl rfl (by kernel_rfl) rfl (by kernel_rfl) (by kernel_rfl) ?_
          refine (Rsum_var hc kc Hh Hk ((Mur.xorl 92 KK1) ++ dd3) AA5 96 nn5 W23 ow25.byt (by omega) ow25.nil (by omega)).mono ?_
          rintro _ W24 ⟨dd4, hd4, hdl4, rfl, hB4⟩
          have ch23 := Wk.Chg.ofBelow hB4
          have zz23 := ch23.size
          have sS15 := Wk.Chg.step sS14 ch23 trivial
          refine ⟨_, rfl, sS15, ?_⟩
          refine Wk.dOp 6 (by kernel_rfl) ?_
          refine Wk.oExS none _ rfl rfl (by kernel_rfl) (Mur.storeAll 25 (.tmp 8) (.tmp 49) rfl W2.heap.size (by kernel_rfl) dd4 32 hdl4 (by kernel_rfl) (by kernel_rfl) 25 #[.int .u8 0, .int .u8 0, .int .u8 0, .int .u8 0, .int .u8 0, .int .u8 0, .int .u8 0, .int .u8 0, .int .u8 0, .int .u8 0, .int .u8 0, .int .u8 0, .int .u8 0, .int .u8 0, .int .u8 0, .int .u8 0, .int .u8 0, .int .u8 0, .int .u8 0, .int .u8 0, .int .u8 0, .int .u8 0, .int .u8 0, .int .u8 0, .int .u8 0, .int .u8 0, .int .u8 0, .int .u8 0, .int .u8 0, .int .u8 0, .int .u8 0, .int .u8 0] (Wk.Chg.hp ch23 (Wk.Chg.hp ch22 (Wk.Chg.hp ch21 (Wk.Chg.hp ch20 (Wk.Chg.hp ch19 (Wk.Chg.hp ch18 (Wk.Chg.hp ch10 (Wk.Chg.hp ch9 hG2 trivial) (Wk.off_blk (fun gz hgz => by have := hO1.lt gz hgz; omega))) trivial) trivial) ⟨by omega, trivial⟩) trivial) (Wk.off_blk (fun gz hgz => by have := hO2.lt gz hgz; omega))) trivial) rfl) ?_
          rintro W25 ⟨hb11, ch24⟩
          have zz24 := ch24.size
          have sS16 := Wk.Chg.step sS15 ch24 ⟨.inl (by simp), trivial⟩
          refine ⟨sS16, ?_⟩
          refine Wk.dEnd (by kernel_rfl) ?_
          refine Wk.nxt ?_
          refine wp_ret ?_
          have kk18 := Wk.Chg.step kk9 ch10 (Wk.newOr_blk (fun g hg => by have := hO1.lt g hg; omega))
          have kk19 := Wk.Chg.step kk18 ch18 trivial
          have kk20 := Wk.Chg.step kk19 ch19 trivial
          have kk21 := Wk.Chg.step kk20 ch20 ⟨.inr (by omega), trivial⟩
          have kk22 := Wk.Chg.step kk21 ch21 trivial
          have kk23 := Wk.Chg.step kk22 ch22 (Wk.newOr_blk (fun g hg => by have := hO2.lt g hg; omega))
          have kk24 := Wk.Chg.step kk23 ch23 trivial
          have kk25 := Wk.Chg.step kk24 ch24 ⟨.inr (by omega), trivial⟩
          refine Wk.ret (.agg (b8s dd4).toArray) rfl (results_cell_row rfl _ _ W2.heap.size 25 (b8s dd4).toArray (0, 0) _ (by kernel_rfl) hb11 Tryd.underlying25 rfl (by rw [List.size_toArray, Mur.b8s_length, hdl4]; kernel_rfl)) ?_
          exact ⟨_, Go.Lib.hid (by unfold Mur.hmac; rw [hd4.out, hd3.out, hK1.out]), hdl4, rfl, kk25⟩
      · refine Wk.oEx (some 13) _ rfl rfl (by kernel_rfl) (Wk.new_ex (.pointer (some ⟨W10.heap.size, 0, none⟩)) #[.int .u8 0, .int .u8 0, .int .u8 0, .int .u8 0, .int .u8 0, .int .u8 0, .int .u8 0, .int .u8 0, .int .u8 0, .int .u8 0, .int .u8 0, .int .u8 0, .int .u8 0, .int .u8 0, .int .u8 0, .int .u8 0, .int .u8 0, .int .u8 0, .int .u8 0, .int .u8 0, .int .u8 0, .int .u8 0, .int .u8 0, .int .u8 0, .int .u8 0, .int .u8 0, .int .u8 0, .int .u8 0, .int .u8 0, .int .u8 0, .int .u8 0, .int .u8 0] 25 (by kernel_rfl)) ?_
        rintro _ W26 ⟨rfl, hb12, ch25, sz11⟩
        have zz25 := ch25.size
        have sS17 := Wk.Chg.step sS1 ch25 trivial
        refine ⟨sS17, ?_⟩
        refine Wk.dOp 4 (by kernel_rfl) ?_
        have ow26 := Mur.own8 (Wk.own_chg hO1.own ch9 (fun q e _ _ => trivial))
        have ow27 := Mur.own8 (Wk.own_chg ow26.own ch25 (fun q e _ _ => trivial))
        have kk26 := Wk.Chg.step HB ch9 trivial
        have kk27 := Wk.Chg.step kk26 ch25 trivial
        refine Wk.oEx (some 42) _ rfl rfl (by kernel_rfl) (Mur.append8 (.tmp 40) (.tmp 41) 22 5 rfl Tryd.underlying22 (by kernel_rfl) W4.heap.size A1 64 c1 (Mur.xorl 54 KK1) B m d b (by kernel_rfl) (by kernel_rfl) ow27.own (Mur.byt_chg HB2.out kk27 (fun g off e hl => trivial)) HA2.out (by omega) (by omega) (64 + m) (by omega) ((Mur.xorl 54 KK1) ++ b) rfl) ?_
        rintro _ W27 ⟨AA6, nn6, rfl, ow28, ch26, ha6⟩
        have zz26 := ch26.size
        have hq13 := ow28.nc
        have hq14 := ow28.cm
        have sS18 := Wk.Chg.step sS17 ch26 (Mur.newOr_iff.2 (fun t ht => .inl ht))
        refine ⟨sS18, ?_⟩
        refine Wk.dOp 5 (by kernel_rfl) ?_
        refine Wk.oCall (some 43) 41 [.tmp 38, .tmp 39, .tmp 42] #[60, 61, 22] [.agg hc, .agg kc, .slice AA6 (64 + m) nn6] rfl rfl (by kernel_rfl) rfl (by kernel_rfl) (by kernel_rfl) ?_
        refine (Rsum_var hc kc Hh Hk ((Mur.xorl 54 KK1) ++ b) AA6 (64 + m) nn6 W27 ow28.byt (by omega) ow28.nil (by omega)).mono ?_
        rintro _ W28 ⟨dd5, hd5, hdl5, rfl, hB5⟩
        have ch27 := Wk.Chg.ofBelow hB5
        have zz27 := ch27.size
        have sS19 := Wk.Chg.step sS18 ch27 trivial
        refine ⟨_, rfl, sS19, ?_⟩
        refine Wk.dOp 7 (by kernel_rfl) ?_
        refine Wk.oExS none _ rfl rfl (by kernel_rfl) (Mur.storeAll 25 (.tmp 13) (.tmp 43) rfl W10.heap.size (by kernel_rfl) dd5 32 hdl5 (by kernel_rfl) (by kernel_rfl) 25 #[.int .u8 0, .int .u8 0, .int .u8 0, .int .u8 0, .int .u8 0, .int .u8 0, .int .u8 0, .int .u8 0, .int .u8 0, .int .u8 0, .int .u8 0, .int .u8 0, .int .u8 0, .int .u8 0, .int .u8 0, .int .u8 0, .int .u8 0, .int .u8 0, .int .u8 0, .int .u8 0, .int .u8 0, .int .u8 0, .int .u8 0, .int .u8 0, .int .u8 0, .int .u8 0, .int .u8 0, .int .u8 0, .int .u8 0, .int .u8 0, .int .u8 0, .int .u8 0] (Wk.Chg.hp ch27 (Wk.Chg.hp ch26 hb12 (Wk.off_blk (fun gz hgz => by have := hO1.lt gz hgz; omega))) trivial) rfl) ?_
        rintro W29 ⟨hb13, ch28⟩
        have zz28 := ch28.size
        have sS20 := Wk.Chg.step sS19 ch28 ⟨.inr (by omega), trivial⟩
        refine ⟨sS20, ?_⟩
        refine Wk.dEnd (by kernel_rfl) ?_
        refine Wk.nxt ?_
        refine wp_seq ?_
        refine Wk.dReg ([W2.heap.size] ++ Wk.blk (.slice A2 64 c2)) (by kernel_rfl) ?_
        intro W30 ch29 sz12
        have zz29 := ch29.size
        have sS21 : Wk.Chg ([W2.heap.size] ++ Wk.blk (.slice A2 64 c2)) W30 W30 := (Wk.Chg.refl _).more (by simp)
        refine Wk.dVal 0 (some 44) (.agg hc) rfl rfl (by kernel_rfl) (by kernel_rfl) (by kernel_rfl) (fun _ _ _ h => h) (by kernel_rfl) (fun w' hw' => (Mur.loadArr 60 (.tmp 4) rfl _ Tryd.underlying60 rfl w.heap.size (by kernel_rfl) hc 8 hcs.1 (by kernel_rfl) 60 (0, 0) (Wk.Chg.hp hw' (Wk.Chg.hp ch29 (Wk.Chg.hp ch28 (Wk.Chg.hp ch27 (Wk.Chg.hp ch26 (Wk.Chg.hp ch25 (Wk.Chg.hp ch9 hG0 trivial) trivial) (Wk.off_blk (fun gz hgz => by have := hO1.lt gz hgz; omega))) trivial) ⟨by omega, trivial⟩) trivial) ⟨by omega, (Wk.off_blk (fun gz hgz => by have := hO2.lt gz hgz; omega))⟩))) sS21 ?_
        refine Wk.dVal 1 (some 45) (.agg kc) rfl rfl (by kernel_rfl) (by kernel_rfl) (by kernel_rfl) (fun _ _ _ h => h) (by kernel_rfl) (fun w' hw' => (Mur.loadArr 61 (.tmp 5) rfl _ Tryd.underlying61 rfl W1.heap.size (by kernel_rfl) kc 64 kcs.1 (by kernel_rfl) 61 (0, 0) (Wk.Chg.hp hw' (Wk.Chg.hp ch29 (Wk.Chg.hp ch28 (Wk.Chg.hp ch27 (Wk.Chg.hp ch26 (Wk.Chg.hp ch25 (Wk.Chg.hp ch9 hG1 trivial) trivial) (Wk.off_blk (fun gz hgz => by have := hO1.lt gz hgz; omega))) trivial) ⟨by omega, trivial⟩) trivial) ⟨by omega, (Wk.off_blk (fun gz hgz => by have := hO2.lt gz hgz; omega))⟩))) sS21 ?_
        refine Wk.dVal 2 (some 46) (.slice A2 64 c2) rfl rfl (by kernel_rfl) (by kernel_rfl) (by kernel_rfl) (fun _ _ _ h => h) (by kernel_rfl) (fun w' hw' => by kernel_rfl) sS21 ?_
        refine Wk.dVal 3 (some 47) (.slice (some ⟨W10.heap.size, 0, none⟩) 32 32) rfl rfl (by kernel_rfl) (by kernel_rfl) (by kernel_rfl) (fun _ _ _ h => h) (by kernel_rfl) (fun w' hw' => (Mur.arr_slice 25 5 (.tmp 13) 32 rfl Tryd.underlying25 (by kernel_rfl) W10.heap.size (by kernel_rfl))) sS21 ?_
        refine Wk.dOp 4 (by kernel_rfl) ?_
        have ow29 := Mur.own8 (Wk.own_chg hO2.own ch9 (fun q e _ _ => trivial))
        have ow30 := Mur.own8 (Wk.own_chg ow29.own ch25 (fun q e _ _ => trivial))
        have ow31 := Mur.own8 (Wk.own_chg ow30.own ch26 (fun q e _ _ => (Wk.off_blk (fun g hg h => hne g hg (h ▸ e)))))
        have ow32 := Mur.own8 (Wk.own_chg ow31.own ch27 (fun q e _ _ => trivial))
        have ow33 := Mur.own8 (Wk.own_chg ow32.own ch28 (fun q e _ _ => ⟨by have := hO2.lt q e; omega, trivial⟩))
        have ow34 := Mur.own8 (Wk.own_chg ow33.own ch29 (fun q e _ _ => trivial))
        refine Wk.oEx (some 48) _ rfl rfl (by kernel_rfl) (Mur.append8 (.tmp 46) (.tmp 47) 22 5 rfl Tryd.underlying22 (by kernel_rfl) W4.heap.size A2 64 c2 (Mur.xorl 92 KK1) (some ⟨W10.heap.size, 0, none⟩) 32 32 dd5 (by kernel_rfl) (by kernel_rfl) ow34.own (Mur.byt_blk dd5 hdl5 (Wk.Chg.hp ch29 hb13 trivial)) (fun h => by cases h) (by omega) (by omega) 96 (by omega) ((Mur.xorl 92 KK1) ++ dd5) rfl) ?_
        rintro _ W31 ⟨AA7, nn7, rfl, ow35, ch30, ha7⟩
        have zz30 := ch30.size
        have hq15 := ow35.nc
        have hq16 := ow35.cm
        have sS22 := Wk.Chg.step sS21 ch30 (Mur.newOr_iff.2 (fun t ht => .inl (List.mem_append_right _ ht)))
        refine ⟨sS22, ?_⟩
        refine Wk.dOp 5 (by kernel_rfl) ?_
        refine Wk.oCall (some 49) 41 [.tmp 44, .tmp 45, .tmp 48] #[60, 61, 22] [.agg hc, .agg kc, .slice AA7 96 nn7] rfl rfl (by kernel_rfl) rfl (by kernel_rfl) (by kernel_rfl) ?_
        refine (Rsum_var hc kc Hh Hk ((Mur.xorl 92 KK1) ++ dd5) AA7 96 nn7 W31 ow35.byt (by omega) ow35.nil (by omega)).mono ?_
        rintro _ W32 ⟨dd6, hd6, hdl6, rfl, hB6⟩
        have ch31 := Wk.Chg.ofBelow hB6
        have zz31 := ch31.size
        have sS23 := Wk.Chg.step sS22 ch31 trivial
        refine ⟨_, rfl, sS23, ?_⟩
        refine Wk.dOp 6 (by kernel_rfl) ?_
        refine Wk.oExS none _ rfl rfl (by kernel_rfl) (Mur.storeAll 25 (.tmp 8) (.tmp 49) rfl W2.heap.size (by kernel_rfl) dd6 32 hdl6 (by kernel_rfl) (by kernel_rfl) 25 #[.int .u8 0, .int .u8 0, .int .u8 0, .int .u8 0, .int .u8 0, .int .u8 0, .int .u8 0, .int .u8 0, .int .u8 0, .int .u8 0, .int .u8 0, .int .u8 0, .int .u8 0, .int .u8 0, .int .u8 0, .int .u8 0, .int .u8 0, .int .u8 0, .int .u8 0, .int .u8 0, .int .u8 0, .int .u8 0, .int .u8 0, .int .u8 0, .int .u8 0, .int .u8 0, .int .u8 0, .int .u8 0, .int .u8 0, .int .u8 0, .int .u8 0, .int .u8 0] (Wk.Chg.hp ch31 (Wk.Chg.hp ch30 (Wk.Chg.hp ch29 (Wk.Chg.hp ch28 (Wk.Chg.hp ch27 (Wk.Chg.hp ch26 (Wk.Chg.hp ch25 (Wk.Chg.hp ch9 hG2 trivial) trivial) (Wk.off_blk (fun gz hgz => by have := hO1.lt gz hgz; omega))) trivial) ⟨by omega, trivial⟩) trivial) (Wk.off_blk (fun gz hgz => by have := hO2.lt gz hgz; omega))) trivial) rfl) ?_
        rintro W33 ⟨hb14, ch32⟩
        have zz32 := ch32.size
        have sS24 := Wk.Chg.step sS23 ch32 ⟨.inl (by simp), trivial⟩
        refine ⟨sS24, ?_⟩
        refine Wk.dEnd (by kernel_rfl) ?_
        refine Wk.nxt ?_
        refine wp_ret ?_
        have kk28 := Wk.Chg.step kk27 ch26 (Wk.newOr_blk (fun g hg => by have := hO1.lt g hg; omega))
        have kk29 := Wk.Chg.step kk28 ch27 trivial
        have kk30 := Wk.Chg.step kk29 ch28 ⟨.inr (by omega), trivial⟩
        have kk31 := Wk.Chg.step kk30 ch29 trivial
        have kk32 := Wk.Chg.step kk31 ch30 (Wk.newOr_blk (fun g hg => by have := hO2.lt g hg; omega))
        have kk33 := Wk.Chg.step kk32 ch31 trivial
        have kk34 := Wk.Chg.step kk33 ch32 ⟨.inr (by omega), trivial⟩
        refine Wk.ret (.agg (b8s dd6).toArray) rfl (results_cell_row rfl _ _ W2.heap.size 25 (b8s dd6).toArray (0, 0) _ (by kernel_rfl) hb14 Tryd.underlying25 rfl (by rw [List.size_toArray, Mur.b8s_length, hdl6]; kernel_rfl)) ?_
        exact ⟨_, Go.Lib.hid (by unfold Mur.hmac; rw [hd6.out, hd5.out, hK1.out]), hdl6, rfl, kk34⟩
theorem Rtag_any (s : List UInt8) (A : Option Addr) (n c : Nat) (b : List UInt8) (B : Option Addr) (m d : Nat) (w : World) (hb : Byt w A n s) (hnc : n ≤ c) (ha : A = none → c = 0) (hn : n ≤ 140737488351232) (hb2 : Byt w B m b) (ha2 : B = none → d = 0) (hn2 : m ≤ 140737488351000) : Calls Tryd.prog 14 #[.slice A n c, .slice B m d] w fun e w' => ∃ d, Hid (d = Mur.hmac s b) ∧ d.length = 32 ∧ e = .returned (.agg (b8s d).toArray) ∧ Wk.Chg [] w w' := by
  have HBY := Go.Lib.hid hb
  clear hb
  have HA := Go.Lib.hid ha
  clear ha
  have HB2 := Go.Lib.hid hb2
  clear hb2
  have HA2 := Go.Lib.hid ha2
  clear ha2
  refine calls_of_wp Tryd.func14 rfl ?_
  refine wp_seq ?_
  refine Wk.reg ?_
  refine Wk.rEx 0 (some 4) _ rfl rfl (by kernel_rfl) (Wk.new_ex (.pointer (some ⟨w.heap.size, 0, none⟩)) #[.int .u8 0, .int .u8 0, .int .u8 0, .int .u8 0, .int .u8 0, .int .u8 0, .int .u8 0, .int .u8 0, .int .u8 0, .int .u8 0, .int .u8 0, .int .u8 0, .int .u8 0, .int .u8 0, .int .u8 0, .int .u8 0, .int .u8 0, .int .u8 0, .int .u8 0, .int .u8 0, .int .u8 0, .int .u8 0, .int .u8 0, .int .u8 0, .int .u8 0, .int .u8 0, .int .u8 0, .int .u8 0, .int .u8 0, .int .u8 0, .int .u8 0, .int .u8 0] 25 (by kernel_rfl)) ?_
  rintro _ W1 ⟨rfl, hb1, ch1, sz1⟩
  have zz1 := ch1.size
  refine Wk.rEnd 1 rfl ?_
  refine Wk.nxt ?_
  refine wp_seq ?_
  refine Wk.reg ?_
  refine Wk.rCall 0 (some 8) 30 [] #[] [] rfl rfl (by kernel_rfl) rfl (by kernel_rfl) (by kernel_rfl) ?_
  refine (words_var W1).mono ?_
  rintro _ W2 ⟨hc, kc, Hh, Hk, rfl, hB1⟩
  have ch2 := Wk.Chg.ofBelow hB1
  have zz2 := ch2.size
  have hcs := hc_size Hh.out
  have kcs := kc_size Hk.out
  refine ⟨_, rfl, ?_⟩
  refine Wk.rPure 1 (some 7) (.tuple #[.agg hc, .agg kc]) rfl rfl (by kernel_rfl) (by kernel_rfl) ?_
  refine Wk.rPure 2 (some 9) (.agg hc) rfl rfl (by kernel_rfl) (by kernel_rfl) ?_
  refine Wk.rPure 3 (some 10) (.agg kc) rfl rfl (by kernel_rfl) (by kernel_rfl) ?_
  refine Wk.rEx 4 (some 5) _ rfl rfl (by kernel_rfl) (Wk.new_ex (.pointer (some ⟨W2.heap.size, 0, none⟩)) #[.int .u32 0, .int .u32 0, .int .u32 0, .int .u32 0, .int .u32 0, .int .u32 0, .int .u32 0, .int .u32 0] 60 (by kernel_rfl)) ?_
  rintro _ W3 ⟨rfl, hb2, ch3, sz2⟩
  have zz3 := ch3.size
  refine Wk.rEx 5 (some 6) _ rfl rfl (by kernel_rfl) (Wk.new_ex (.pointer (some ⟨W3.heap.size, 0, none⟩)) #[.int .u32 0, .int .u32 0, .int .u32 0, .int .u32 0, .int .u32 0, .int .u32 0, .int .u32 0, .int .u32 0, .int .u32 0, .int .u32 0, .int .u32 0, .int .u32 0, .int .u32 0, .int .u32 0, .int .u32 0, .int .u32 0, .int .u32 0, .int .u32 0, .int .u32 0, .int .u32 0, .int .u32 0, .int .u32 0, .int .u32 0, .int .u32 0, .int .u32 0, .int .u32 0, .int .u32 0, .int .u32 0, .int .u32 0, .int .u32 0, .int .u32 0, .int .u32 0, .int .u32 0, .int .u32 0, .int .u32 0, .int .u32 0, .int .u32 0, .int .u32 0, .int .u32 0, .int .u32 0, .int .u32 0, .int .u32 0, .int .u32 0, .int .u32 0, .int .u32 0, .int .u32 0, .int .u32 0, .int .u32 0, .int .u32 0, .int .u32 0, .int .u32 0, .int .u32 0, .int .u32 0, .int .u32 0, .int .u32 0, .int .u32 0, .int .u32 0, .int .u32 0, .int .u32 0, .int .u32 0, .int .u32 0, .int .u32 0, .int .u32 0, .int .u32 0] 61 (by kernel_rfl)) ?_
  rintro _ W4 ⟨rfl, hb3, ch4, sz3⟩
  have zz4 := ch4.size
  refine Wk.rExS 6 none _ rfl rfl (by kernel_rfl) (Mur.storeArr 60 (.tmp 5) (.tmp 9) rfl W2.heap.size (by kernel_rfl) hc 8 hcs.1 hcs.2 (by kernel_rfl) (by kernel_rfl) 60 #[.int .u32 0, .int .u32 0, .int .u32 0, .int .u32 0, .int .u32 0, .int .u32 0, .int .u32 0, .int .u32 0] (Wk.Chg.hp ch4 hb2 trivial) (by kernel_rfl)) ?_
  rintro W5 ⟨hb4, ch5⟩
  have zz5 := ch5.size
  refine Wk.rExS 7 none _ rfl rfl (by kernel_rfl) (Mur.storeArr 61 (.tmp 6) (.tmp 10) rfl W3.heap.size (by kernel_rfl) kc 64 kcs.1 kcs.2 (by kernel_rfl) (by kernel_rfl) 61 #[.int .u32 0, .int .u32 0, .int .u32 0, .int .u32 0, .int .u32 0, .int .u32 0, .int .u32 0, .int .u32 0, .int .u32 0, .int .u32 0, .int .u32 0, .int .u32 0, .int .u32 0, .int .u32 0, .int .u32 0, .int .u32 0, .int .u32 0, .int .u32 0, .int .u32 0, .int .u32 0, .int .u32 0, .int .u32 0, .int .u32 0, .int .u32 0, .int .u32 0, .int .u32 0, .int .u32 0, .int .u32 0, .int .u32 0, .int .u32 0, .int .u32 0, .int .u32 0, .int .u32 0, .int .u32 0, .int .u32 0, .int .u32 0, .int .u32 0, .int .u32 0, .int .u32 0, .int .u32 0, .int .u32 0, .int .u32 0, .int .u32 0, .int .u32 0, .int .u32 0, .int .u32 0, .int .u32 0, .int .u32 0, .int .u32 0, .int .u32 0, .int .u32 0, .int .u32 0, .int .u32 0, .int .u32 0, .int .u32 0, .int .u32 0, .int .u32 0, .int .u32 0, .int .u32 0, .int .u32 0, .int .u32 0, .int .u32 0, .int .u32 0, .int .u32 0] (Wk.Chg.hp ch5 hb3 ⟨by omega, trivial⟩) (by kernel_rfl)) ?_
  rintro W6 ⟨hb5, ch6⟩
  have zz6 := ch6.size
  refine Wk.rEnd 8 rfl ?_
  refine Wk.nxt ?_
  refine wp_seq ?_
  refine Wk.reg ?_
  refine Wk.rPure 0 (some 11) (.agg hc) rfl rfl (by kernel_rfl) (Mur.loadArr 60 (.tmp 5) rfl _ Tryd.underlying60 rfl W2.heap.size (by kernel_rfl) hc 8 hcs.1 (by kernel_rfl) 60 (0, 0) (Wk.Chg.hp ch6 hb4 ⟨by omega, trivial⟩)) ?_
  refine Wk.rPure 1 (some 12) (.agg kc) rfl rfl (by kernel_rfl) (Mur.loadArr 61 (.tmp 6) rfl _ Tryd.underlying61 rfl W3.heap.size (by kernel_rfl) kc 64 kcs.1 (by kernel_rfl) 61 (0, 0) hb5) ?_
  refine Wk.rPure 2 (some 13) (.slice A n c) rfl rfl (by kernel_rfl) (by kernel_rfl) ?_
  refine Wk.rPure 3 (some 14) (.slice B m d) rfl rfl (by kernel_rfl) (by kernel_rfl) ?_
  refine Wk.rCall 4 (some 15) 31 [.tmp 11, .tmp 12, .tmp 13, .tmp 14] #[60, 61, 22, 22] [.agg hc, .agg kc, .slice A n c, .slice B m d] rfl rfl (by kernel_rfl) rfl (by kernel_rfl) (by kernel_rfl) ?_
  have kk1 : Wk.Chg [] w W1 := Wk.Chg.step ((Wk.Chg.refl _).more (by simp)) ch1 trivial
  have kk2 := Wk.Chg.step kk1 ch2 trivial
  have kk3 := Wk.Chg.step kk2 ch3 trivial
  have kk4 := Wk.Chg.step kk3 ch4 trivial
  have kk5 := Wk.Chg.step kk4 ch5 ⟨.inr (by omega), trivial⟩
  have kk6 := Wk.Chg.step kk5 ch6 ⟨.inr (by omega), trivial⟩
  refine (TagBy_any hc kc Hh Hk s A n c b B m d W6 (Mur.byt_chg HBY.out kk6 (fun g off e hl => trivial)) (by omega) HA.out (by omega) (Mur.byt_chg HB2.out kk6 (fun g off e hl => trivial)) HA2.out (by omega)).mono ?_
  rintro _ W7 ⟨dd1, hd1, hdl1, rfl, ch7⟩
  have zz7 := ch7.size
  refine ⟨_, rfl, ?_⟩
  refine Wk.rExS 5 none _ rfl rfl (by kernel_rfl) (Mur.storeAll 25 (.tmp 4) (.tmp 15) rfl w.heap.size (by kernel_rfl) dd1 32 hdl1 (by kernel_rfl) (by kernel_rfl) 25 #[.int .u8 0, .int .u8 0, .int .u8 0, .int .u8 0, .int .u8 0, .int .u8 0, .int .u8 0, .int .u8 0, .int .u8 0, .int .u8 0, .int .u8 0, .int .u8 0, .int .u8 0, .int .u8 0, .int .u8 0, .int .u8 0, .int .u8 0, .int .u8 0, .int .u8 0, .int .u8 0, .int .u8 0, .int .u8 0, .int .u8 0, .int .u8 0, .int .u8 0, .int .u8 0, .int .u8 0, .int .u8 0, .int .u8 0, .int .u8 0, .int .u8 0, .int .u8 0] (Wk.Chg.hp ch7 (Wk.Chg.hp ch6 (Wk.Chg.hp ch5 (Wk.Chg.hp ch4 (Wk.Chg.hp ch3 (Wk.Chg.hp ch2 hb1 trivial) trivial) trivial) ⟨by omega, trivial⟩) ⟨by omega, trivial⟩) trivial) rfl) ?_
  rintro W8 ⟨hb6, ch8⟩
  have zz8 := ch8.size
  refine Wk.rEnd 6 rfl ?_
  refine Wk.nxt ?_
  refine wp_ret ?_
  have kk7 := Wk.Chg.step kk6 ch7 trivial
  have kk8 := Wk.Chg.step kk7 ch8 ⟨.inr (by omega), trivial⟩
  refine Wk.ret (.agg (b8s dd1).toArray) rfl (results_cell_row rfl _ _ w.heap.size 25 (b8s dd1).toArray (0, 0) _ (by kernel_rfl) hb6 Tryd.underlying25 rfl (by rw [List.size_toArray, Mur.b8s_length, hdl1]; kernel_rfl)) ?_
  exact ⟨_, hd1, hdl1, rfl, kk8⟩
end Go.Proofs.YtljfjjofhclhiaaDoor
