/- A secret's key; a byte on each of a key's. -/
import Derived.Test.YtljfjjofhclhiaaDoorHm
namespace Go.Proofs.YtljfjjofhclhiaaDoor
open Go.RowKit
open Mur (b8s Byt Own8 Seg Segs flat cutA)
set_option maxRecDepth 100000
set_option maxHeartbeats 4000000
def With_F1 (b : Array Value) (u1 : Value) (u2 : Value) (u4 : Value) (u6 : Value) : Act := ⟨#[b.getD 0 undef, u1, u2, b.getD 3 undef, u4, b.getD 5 undef, u6, b.getD 7 undef, b.getD 8 undef, b.getD 9 undef, b.getD 10 undef, b.getD 11 undef, b.getD 12 undef, b.getD 13 undef, b.getD 14 undef, b.getD 15 undef, b.getD 16 undef], []⟩
theorem key_any (s : List UInt8) (A : Option Addr) (n c : Nat) (w : World) (hv : ShaVars w) (hb : Byt w A n s) (hnc : n ≤ c) (ha : A = none → c = 0) (hn : n ≤ 140737488351232) : Calls Tryd.prog 28 #[.slice A n c] w fun e w' => ∃ d, Hid (d = Mur.hkey s) ∧ d.length = 64 ∧ e = .returned (.agg (b8s d).toArray) ∧ Wk.Chg [] w w' := by
  have HV := Go.Lib.hid hv
  clear hv
  have HB := Go.Lib.hid hb
  clear hb
  have HA := Go.Lib.hid ha
  clear ha
  refine calls_of_wp Tryd.func28 rfl ?_
  refine wp_seq ?_
  refine Wk.reg ?_
  refine Wk.rEx 0 (some 2) _ rfl rfl (by kernel_rfl) (Wk.new_ex (.pointer (some ⟨w.heap.size, 0, none⟩)) #[.int .u8 0, .int .u8 0, .int .u8 0, .int .u8 0, .int .u8 0, .int .u8 0, .int .u8 0, .int .u8 0, .int .u8 0, .int .u8 0, .int .u8 0, .int .u8 0, .int .u8 0, .int .u8 0, .int .u8 0, .int .u8 0, .int .u8 0, .int .u8 0, .int .u8 0, .int .u8 0, .int .u8 0, .int .u8 0, .int .u8 0, .int .u8 0, .int .u8 0, .int .u8 0, .int .u8 0, .int .u8 0, .int .u8 0, .int .u8 0, .int .u8 0, .int .u8 0, .int .u8 0, .int .u8 0, .int .u8 0, .int .u8 0, .int .u8 0, .int .u8 0, .int .u8 0, .int .u8 0, .int .u8 0, .int .u8 0, .int .u8 0, .int .u8 0, .int .u8 0, .int .u8 0, .int .u8 0, .int .u8 0, .int .u8 0, .int .u8 0, .int .u8 0, .int .u8 0, .int .u8 0, .int .u8 0, .int .u8 0, .int .u8 0, .int .u8 0, .int .u8 0, .int .u8 0, .int .u8 0, .int .u8 0, .int .u8 0, .int .u8 0, .int .u8 0] 56 (by kernel_rfl)) ?_
  rintro _ W1 ⟨rfl, hb1, ch1, sz1⟩
  have zz1 := ch1.size
  refine Wk.rEnd 1 rfl ?_
  refine Wk.nxt ?_
  refine wp_seq ?_
  refine wp_seq ?_
  refine Wk.reg ?_
  refine Wk.rPure 0 (some 4) (.slice A n c) rfl rfl (by kernel_rfl) (by kernel_rfl) ?_
  refine Wk.rPure 1 (some 5) (.int .i64 ((n : Nat) : Int)) rfl rfl (by kernel_rfl) (by kernel_rfl) ?_
  by_cases hx1 : ((n : Nat) : Int) > (64 : Int)
  · refine Wk.rPure 2 (some 6) (.bool true) rfl rfl (by kernel_rfl) (Wk.boolT (b := decide (((n : Nat) : Int) > (64 : Int))) (decide_eq_true (by first | exact hx1 | omega)) (by kernel_rfl)) ?_
    refine Wk.rEnd 3 rfl ?_
    refine Wk.nxt ?_
    refine wp_cond_true (by kernel_rfl) ?_
    refine wp_seq ?_
    refine Wk.reg ?_
    refine Wk.rPure 0 (some 7) (.slice A n c) rfl rfl (by kernel_rfl) (by kernel_rfl) ?_
    refine Wk.rCall 1 (some 8) 15 [.tmp 7] #[22] [.slice A n c] rfl rfl (by kernel_rfl) rfl (by kernel_rfl) (by kernel_rfl) ?_
    have kk1 : Wk.Chg [] w W1 := Wk.Chg.step ((Wk.Chg.refl _).more (by simp)) ch1 trivial
    refine (Sum_var s A n c W1 (HV.out.below (Wk.Chg.below0 kk1)) (Mur.byt_chg HB.out kk1 (fun g off e hl => trivial)) (by omega) HA.out (by omega)).mono ?_
    rintro _ W2 ⟨dd1, hd1, hdl1, rfl, hB1⟩
    have ch2 := Wk.Chg.ofBelow hB1
    have zz2 := ch2.size
    refine ⟨_, rfl, ?_⟩
    refine Wk.rEx 2 (some 3) _ rfl rfl (by kernel_rfl) (Wk.new_ex (.pointer (some ⟨W2.heap.size, 0, none⟩)) #[.int .u8 0, .int .u8 0, .int .u8 0, .int .u8 0, .int .u8 0, .int .u8 0, .int .u8 0, .int .u8 0, .int .u8 0, .int .u8 0, .int .u8 0, .int .u8 0, .int .u8 0, .int .u8 0, .int .u8 0, .int .u8 0, .int .u8 0, .int .u8 0, .int .u8 0, .int .u8 0, .int .u8 0, .int .u8 0, .int .u8 0, .int .u8 0, .int .u8 0, .int .u8 0, .int .u8 0, .int .u8 0, .int .u8 0, .int .u8 0, .int .u8 0, .int .u8 0] 25 (by kernel_rfl)) ?_
    rintro _ W3 ⟨rfl, hb2, ch3, sz2⟩
    have zz3 := ch3.size
    refine Wk.rExS 3 none _ rfl rfl (by kernel_rfl) (Mur.storeAll 25 (.tmp 3) (.tmp 8) rfl W2.heap.size (by kernel_rfl) dd1 32 hdl1 (by kernel_rfl) (by kernel_rfl) 25 #[.int .u8 0, .int .u8 0, .int .u8 0, .int .u8 0, .int .u8 0, .int .u8 0, .int .u8 0, .int .u8 0, .int .u8 0, .int .u8 0, .int .u8 0, .int .u8 0, .int .u8 0, .int .u8 0, .int .u8 0, .int .u8 0, .int .u8 0, .int .u8 0, .int .u8 0, .int .u8 0, .int .u8 0, .int .u8 0, .int .u8 0, .int .u8 0, .int .u8 0, .int .u8 0, .int .u8 0, .int .u8 0, .int .u8 0, .int .u8 0, .int .u8 0, .int .u8 0] hb2 rfl) ?_
    rintro W4 ⟨hb3, ch4⟩
    have zz4 := ch4.size
    refine Wk.rEnd 4 rfl ?_
    refine Wk.nxt ?_
    refine Wk.reg ?_
    refine Wk.rPure 0 (some 9) (.slice (some ⟨W2.heap.size, 0, none⟩) 32 32) rfl rfl (by kernel_rfl) (Mur.arr_slice 25 5 (.tmp 3) 32 rfl Tryd.underlying25 (by kernel_rfl) W2.heap.size (by kernel_rfl)) ?_
    refine Wk.rPure 1 (some 0) (.slice (some ⟨W2.heap.size, 0, none⟩) 32 32) rfl rfl (by kernel_rfl) (by kernel_rfl) ?_
    refine Wk.rEnd 2 rfl ?_
    refine Wk.nxt ?_
    refine wp_seq ?_
    refine Wk.reg ?_
    refine Wk.rPure 0 (some 10) (.slice (some ⟨w.heap.size, 0, none⟩) 64 64) rfl rfl (by kernel_rfl) (Mur.arr_slice 56 5 (.tmp 2) 64 rfl Tryd.underlying56 (by kernel_rfl) w.heap.size (by kernel_rfl)) ?_
    refine Wk.rPure 1 (some 11) (.slice (some ⟨W2.heap.size, 0, none⟩) 32 32) rfl rfl (by kernel_rfl) (by kernel_rfl) ?_
    refine Wk.rEx 2 (some 12) _ rfl rfl (by kernel_rfl) (Mur.copy8 (.tmp 10) (.tmp 11) 22 22 rfl 5 Tryd.underlying22 (by kernel_rfl) w.heap.size 64 64 (by kernel_rfl) (some ⟨W2.heap.size, 0, none⟩) 32 32 (by kernel_rfl) 56 (List.replicate 64 (0 : UInt8)) dd1 ((Wk.Chg.hp ch4 (Wk.Chg.hp ch3 (Wk.Chg.hp ch2 hb1 trivial) trivial) ⟨by omega, trivial⟩)) rfl (Mur.byt_blk dd1 hdl1 hb3) (by omega) (fun h => by cases h)) ?_
    rintro _ W5 ⟨rfl, hb4, ch5⟩
    have hcl1 : (dd1 ++ (List.replicate 64 (0 : UInt8)).drop 32).length = 64 := by have h1 := (Mur.byt_blk dd1 hdl1 hb3).1; have h2 : (List.replicate 64 (0 : UInt8)).length = 64 := (by simp); simp only [List.length_append, List.length_drop]; omega
    obtain ⟨cp1, hcp1⟩ : ∃ l, Hid (l = dd1 ++ (List.replicate 64 (0 : UInt8)).drop 32) := ⟨_, rfl⟩
    rw [← hcp1.out] at hb4 hcl1
    have zz5 := ch5.size
    refine Wk.rEnd 3 rfl ?_
    refine Wk.nxt ?_
    refine wp_seq ?_
    refine Wk.reg ?_
    refine Wk.rPure 0 (some 13) (.agg ((b8s cp1).toArray)) rfl rfl (by kernel_rfl) (Mur.loadAll 56 (.tmp 2) rfl _ Tryd.underlying56 rfl w.heap.size (by kernel_rfl) cp1 64 hcl1 (by kernel_rfl) 56 (0, 0) hb4) ?_
    refine Wk.rExS 1 none _ rfl rfl (by kernel_rfl) (Mur.storeAll 56 (.tmp 2) (.tmp 13) rfl w.heap.size (by kernel_rfl) cp1 64 hcl1 (by kernel_rfl) (by kernel_rfl) 56 ((b8s cp1).toArray) hb4 (by rw [List.size_toArray, Mur.b8s_length, hcl1])) ?_
    rintro W6 ⟨hb5, ch6⟩
    have zz6 := ch6.size
    refine Wk.rEnd 2 rfl ?_
    refine Wk.nxt ?_
    refine wp_ret ?_
    have kk2 := Wk.Chg.step kk1 ch2 trivial
    have kk3 := Wk.Chg.step kk2 ch3 trivial
    have kk4 := Wk.Chg.step kk3 ch4 ⟨.inr (by omega), trivial⟩
    have kk5 := Wk.Chg.step kk4 ch5 ⟨.inr (by omega), trivial⟩
    have kk6 := Wk.Chg.step kk5 ch6 ⟨.inr (by omega), trivial⟩
    refine Wk.ret (.agg (b8s cp1).toArray) rfl (results_cell_row rfl _ _ w.heap.size 56 (b8s cp1).toArray (0, 0) _ (by kernel_rfl) hb5 Tryd.underlying56 rfl (by rw [List.size_toArray, Mur.b8s_length, hcl1]; kernel_rfl)) ?_
    exact ⟨_, Go.Lib.hid (hcp1.out.trans (Mur.key_big (by rw [HB.out.1]; omega) hd1.out)), hcl1, rfl, kk6⟩
  · refine Wk.rPure 2 (some 6) (.bool false) rfl rfl (by kernel_rfl) (Wk.boolF (b := decide (((n : Nat) : Int) > (64 : Int))) (decide_eq_false (by first | exact hx1 | omega)) (by kernel_rfl)) ?_
    refine Wk.rEnd 3 rfl ?_
    refine Wk.nxt ?_
    refine wp_cond_false (by kernel_rfl) ?_
    refine wp_skip ?_
    refine Wk.nxt ?_
    refine wp_seq ?_
    refine Wk.reg ?_
    refine Wk.rPure 0 (some 10) (.slice (some ⟨w.heap.size, 0, none⟩) 64 64) rfl rfl (by kernel_rfl) (Mur.arr_slice 56 5 (.tmp 2) 64 rfl Tryd.underlying56 (by kernel_rfl) w.heap.size (by kernel_rfl)) ?_
    refine Wk.rPure 1 (some 11) (.slice A n c) rfl rfl (by kernel_rfl) (by kernel_rfl) ?_
    have kk7 : Wk.Chg [] w W1 := Wk.Chg.step ((Wk.Chg.refl _).more (by simp)) ch1 trivial
    refine Wk.rEx 2 (some 12) _ rfl rfl (by kernel_rfl) (Mur.copy8 (.tmp 10) (.tmp 11) 22 22 rfl 5 Tryd.underlying22 (by kernel_rfl) w.heap.size 64 64 (by kernel_rfl) A n c (by kernel_rfl) 56 (List.replicate 64 (0 : UInt8)) s (hb1) rfl (Mur.byt_chg HB.out kk7 (fun g off e hl => trivial)) (by omega) HA.out) ?_
    rintro _ W7 ⟨rfl, hb6, ch7⟩
    have hcl2 : (s ++ (List.replicate 64 (0 : UInt8)).drop n).length = 64 := by have h1 := (Mur.byt_chg HB.out kk7 (fun g off e hl => trivial)).1; have h2 : (List.replicate 64 (0 : UInt8)).length = 64 := (by simp); simp only [List.length_append, List.length_drop]; omega
    obtain ⟨cp2, hcp2⟩ : ∃ l, Hid (l = s ++ (List.replicate 64 (0 : UInt8)).drop n) := ⟨_, rfl⟩
    rw [← hcp2.out] at hb6 hcl2
    have zz7 := ch7.size
    refine Wk.rEnd 3 rfl ?_
    refine Wk.nxt ?_
    refine wp_seq ?_
    refine Wk.reg ?_
    refine Wk.rPure 0 (some 13) (.agg ((b8s cp2).toArray)) rfl rfl (by kernel_rfl) (Mur.loadAll 56 (.tmp 2) rfl _ Tryd.underlying56 rfl w.heap.size (by kernel_rfl) cp2 64 hcl2 (by kernel_rfl) 56 (0, 0) hb6) ?_
    refine Wk.rExS 1 none _ rfl rfl (by kernel_rfl) (Mur.storeAll 56 (.tmp 2) (.tmp 13) rfl w.heap.size (by kernel_rfl) cp2 64 hcl2 (by kernel_rfl) (by kernel_rfl) 56 ((b8s cp2).toArray) hb6 (by rw [List.size_toArray, Mur.b8s_length, hcl2])) ?_
    rintro W8 ⟨hb7, ch8⟩
    have zz8 := ch8.size
    refine Wk.rEnd 2 rfl ?_
    refine Wk.nxt ?_
    refine wp_ret ?_
    have kk8 := Wk.Chg.step kk7 ch7 ⟨.inr (by omega), trivial⟩
    have kk9 := Wk.Chg.step kk8 ch8 ⟨.inr (by omega), trivial⟩
    refine Wk.ret (.agg (b8s cp2).toArray) rfl (results_cell_row rfl _ _ w.heap.size 56 (b8s cp2).toArray (0, 0) _ (by kernel_rfl) hb7 Tryd.underlying56 rfl (by rw [List.size_toArray, Mur.b8s_length, hcl2]; kernel_rfl)) ?_
    exact ⟨_, Go.Lib.hid (hcp2.out.trans (Mur.key_small HB.out.1 (by omega))), hcl2, rfl, kk9⟩
theorem with_any (c : UInt8) (k : List UInt8) (hk : k.length = 64) (w : World) : Calls Tryd.prog 29 #[.agg (b8s k).toArray, .int .u8 ((c.toNat : Nat) : Int)] w fun e w' => e = .returned (.agg (b8s (Mur.xorl c k)).toArray) ∧ Wk.Chg [] w w' := by
  refine calls_of_wp Tryd.func29 rfl ?_
  refine wp_seq ?_
  refine Wk.reg ?_
  refine Wk.rEx 0 (some 2) _ rfl rfl (by kernel_rfl) (Wk.new_ex (.pointer (some ⟨w.heap.size, 0, none⟩)) ((b8s k).toArray) 56 (by kernel_rfl)) ?_
  rintro _ W1 ⟨rfl, hb1, ch1, sz1⟩
  have zz1 := ch1.size
  refine Wk.rEx 1 (some 4) _ rfl rfl (by kernel_rfl) (Wk.new_ex (.pointer (some ⟨W1.heap.size, 0, none⟩)) #[.int .u8 0, .int .u8 0, .int .u8 0, .int .u8 0, .int .u8 0, .int .u8 0, .int .u8 0, .int .u8 0, .int .u8 0, .int .u8 0, .int .u8 0, .int .u8 0, .int .u8 0, .int .u8 0, .int .u8 0, .int .u8 0, .int .u8 0, .int .u8 0, .int .u8 0, .int .u8 0, .int .u8 0, .int .u8 0, .int .u8 0, .int .u8 0, .int .u8 0, .int .u8 0, .int .u8 0, .int .u8 0, .int .u8 0, .int .u8 0, .int .u8 0, .int .u8 0, .int .u8 0, .int .u8 0, .int .u8 0, .int .u8 0, .int .u8 0, .int .u8 0, .int .u8 0, .int .u8 0, .int .u8 0, .int .u8 0, .int .u8 0, .int .u8 0, .int .u8 0, .int .u8 0, .int .u8 0, .int .u8 0, .int .u8 0, .int .u8 0, .int .u8 0, .int .u8 0, .int .u8 0, .int .u8 0, .int .u8 0, .int .u8 0, .int .u8 0, .int .u8 0, .int .u8 0, .int .u8 0, .int .u8 0, .int .u8 0, .int .u8 0, .int .u8 0] 56 (by kernel_rfl)) ?_
  rintro _ W2 ⟨rfl, hb2, ch2, sz2⟩
  have zz2 := ch2.size
  refine Wk.rEnd 2 rfl ?_
  refine Wk.nxt ?_
  refine wp_seq ?_
  refine wp_seq ?_
  refine Wk.reg ?_
  refine Wk.rPure 0 (some 6) (.int .i64 0) rfl rfl (by kernel_rfl) (by kernel_rfl) ?_
  refine Wk.rEnd 1 rfl ?_
  refine Wk.nxt ?_
  refine wp_block ?_
  refine Wk.loop (fun m_ a wr => ∃ (i : Nat), m_ = 64 - i ∧ a = With_F1 a.tmps (.int .u8 ((c.toNat : Nat) : Int)) (.pointer (some ⟨w.heap.size, 0, none⟩)) (.pointer (some ⟨W1.heap.size, 0, none⟩)) (.int .i64 ((i : Nat) : Int)) ∧ i ≤ 64 ∧ wr.heap[w.heap.size]? = some (.cells (b8s (Mur.xorTo c k i)).toArray 56 (0, 0)) ∧ wr.heap[W1.heap.size]? = some (.cells #[.int .u8 0, .int .u8 0, .int .u8 0, .int .u8 0, .int .u8 0, .int .u8 0, .int .u8 0, .int .u8 0, .int .u8 0, .int .u8 0, .int .u8 0, .int .u8 0, .int .u8 0, .int .u8 0, .int .u8 0, .int .u8 0, .int .u8 0, .int .u8 0, .int .u8 0, .int .u8 0, .int .u8 0, .int .u8 0, .int .u8 0, .int .u8 0, .int .u8 0, .int .u8 0, .int .u8 0, .int .u8 0, .int .u8 0, .int .u8 0, .int .u8 0, .int .u8 0, .int .u8 0, .int .u8 0, .int .u8 0, .int .u8 0, .int .u8 0, .int .u8 0, .int .u8 0, .int .u8 0, .int .u8 0, .int .u8 0, .int .u8 0, .int .u8 0, .int .u8 0, .int .u8 0, .int .u8 0, .int .u8 0, .int .u8 0, .int .u8 0, .int .u8 0, .int .u8 0, .int .u8 0, .int .u8 0, .int .u8 0, .int .u8 0, .int .u8 0, .int .u8 0, .int .u8 0, .int .u8 0, .int .u8 0, .int .u8 0, .int .u8 0, .int .u8 0] 56 (0, 0)) ∧ Wk.Chg [] w wr ∧ W1.heap.size < wr.heap.size) (64 - 0) ?_ ?_
  · have kk1 : Wk.Chg [] w W1 := Wk.Chg.step ((Wk.Chg.refl _).more (by simp)) ch1 trivial
    have kk2 := Wk.Chg.step kk1 ch2 trivial
    refine ⟨0, rfl, by kernel_rfl, by omega, (by rw [Mur.xorTo_zero]; exact (Wk.Chg.hp ch2 hb1 trivial)), hb2, kk2, (by omega)⟩
  · rintro mm1 aa1 W3 ⟨i, hmm1, hF1, hi, hX, hZ, HB, hz4⟩
    generalize aa1.tmps = bb1 at hF1
    subst hF1
    have hxl : (Mur.xorTo c k i).length = 64 := by rw [Mur.xorTo_length, hk]
    by_cases hlt : i < 64
    · refine wp_seq ?_
      refine Wk.reg ?_
      refine Wk.rPure 0 (some 7) (.bool true) rfl rfl (by kernel_rfl) (Wk.boolT (b := decide (((i : Nat) : Int) < (64 : Int))) (decide_eq_true (by omega)) (by kernel_rfl)) ?_
      refine Wk.rEnd 1 rfl ?_
      refine Wk.nxt ?_
      refine wp_seq ?_
      refine wp_cond_true (by kernel_rfl) ?_
      refine wp_skip ?_
      refine Wk.nxt ?_
      refine wp_seq ?_
      refine wp_block ?_
      refine wp_seq ?_
      refine Wk.reg ?_
      refine Wk.rPure 0 (some 8) (.int .i64 ((i : Nat) : Int)) rfl rfl (by kernel_rfl) (by kernel_rfl) ?_
      refine Wk.rPure 1 (some 5) (.int .i64 ((i : Nat) : Int)) rfl rfl (by kernel_rfl) (by kernel_rfl) ?_
      refine Wk.rEnd 2 rfl ?_
      refine Wk.nxt ?_
      refine Wk.reg ?_
      refine Wk.rPure 0 (some 9) (.int .i64 ((i : Nat) : Int)) rfl rfl (by kernel_rfl) (by kernel_rfl) ?_
      refine Wk.rPure 1 (some 10) (.pointer (some ⟨w.heap.size, 0 + i * 1, none⟩)) rfl rfl (by kernel_rfl) (Wk.index_arr 56 5 (.tmp 2) (.tmp 9) rfl 64 Tryd.underlying56 1 (by kernel_rfl) w.heap.size 0 i .i64 (by kernel_rfl) (by kernel_rfl) (by omega)) ?_
      refine Wk.rPure 2 (some 11) (.int .u8 (((k.getD i 0).toNat : Nat) : Int)) rfl rfl (by kernel_rfl) (Wk.load1 5 (.tmp 10) rfl (by kernel_rfl) ⟨w.heap.size, 0 + i * 1, none⟩ (by kernel_rfl) (.int .u8 (((k.getD i 0).toNat : Nat) : Int)) (by rw [← Mur.xorTo_getD c k i (by omega)]; exact (Mur.blk_cell (Mur.xorTo c k i) hX i (by rw [hxl]; omega)))) ?_
      refine Wk.rPure 3 (some 12) (.int .u8 ((c.toNat : Nat) : Int)) rfl rfl (by kernel_rfl) (by kernel_rfl) ?_
      refine Wk.rPure 4 (some 13) (.int .u8 ((((k.getD i 0) ^^^ c).toNat : Nat) : Int)) rfl rfl (by kernel_rfl) (Mur.xor8 5 5 (.tmp 11) (.tmp 12) rfl (k.getD i 0) c (by kernel_rfl) (by kernel_rfl)) ?_
      refine Wk.rPure 5 (some 14) (.pointer (some ⟨w.heap.size, 0 + i * 1, none⟩)) rfl rfl (by kernel_rfl) (Wk.index_arr 56 5 (.tmp 2) (.tmp 9) rfl 64 Tryd.underlying56 1 (by kernel_rfl) w.heap.size 0 i .i64 (by kernel_rfl) (by kernel_rfl) (by omega)) ?_
      refine Wk.rExS 6 none _ rfl rfl (by kernel_rfl) (Mur.store8 5 (.tmp 14) (.tmp 13) rfl (by kernel_rfl) w.heap.size i (by kernel_rfl) ((k.getD i 0) ^^^ c) (by kernel_rfl) 56 (Mur.xorTo c k i) hX (by rw [hxl]; omega)) ?_
      rintro W4 ⟨hb3, ch3⟩
      have zz3 := ch3.size
      refine Wk.rEnd 7 rfl ?_
      refine Wk.inN ?_
      refine Wk.nxt ?_
      refine Wk.reg ?_
      refine Wk.rPure 0 (some 15) (.int .i64 ((i + 1 : Nat) : Int)) rfl rfl (by kernel_rfl) (Wk.int64 (n := ((i : Nat) : Int) + 1) (z := ((i + 1 : Nat) : Int)) (by omega) (by omega) (by omega) (by kernel_rfl)) ?_
      refine Wk.rPure 1 (some 6) (.int .i64 ((i + 1 : Nat) : Int)) rfl rfl (by kernel_rfl) (by kernel_rfl) ?_
      refine Wk.rEnd 2 rfl ?_
      refine Wk.nxt ?_
      have kk3 := Wk.Chg.step HB ch3 ⟨.inr (by omega), trivial⟩
      refine ⟨_, ?_, i + 1, rfl, by kernel_rfl, (by omega), (by rw [← Mur.xorTo_set c k i (by omega)]; exact hb3), (Wk.Chg.hp ch3 hZ ⟨by omega, trivial⟩), kk3, (by omega)⟩
      · omega
    · obtain rfl : i = 64 := by omega
      refine wp_seq ?_
      refine Wk.reg ?_
      refine Wk.rPure 0 (some 7) (.bool false) rfl rfl (by kernel_rfl) (Wk.boolF (b := decide (((64 : Nat) : Int) < (64 : Int))) (decide_eq_false (by omega)) (by kernel_rfl)) ?_
      refine Wk.rEnd 1 rfl ?_
      refine Wk.nxt ?_
      refine wp_seq ?_
      refine wp_cond_false (by kernel_rfl) ?_
      refine wp_exit ?_
      refine Wk.thX ?_
      refine Wk.thX ?_
      refine Wk.inX ?_
      refine Wk.nxt ?_
      refine wp_seq ?_
      refine Wk.reg ?_
      refine Wk.rPure 0 (some 16) (.agg ((b8s (Mur.xorTo c k 64)).toArray)) rfl rfl (by kernel_rfl) (Mur.loadAll 56 (.tmp 2) rfl _ Tryd.underlying56 rfl w.heap.size (by kernel_rfl) (Mur.xorTo c k 64) 64 hxl (by kernel_rfl) 56 (0, 0) hX) ?_
      refine Wk.rExS 1 none _ rfl rfl (by kernel_rfl) (Mur.storeAll 56 (.tmp 4) (.tmp 16) rfl W1.heap.size (by kernel_rfl) (Mur.xorTo c k 64) 64 hxl (by kernel_rfl) (by kernel_rfl) 56 #[.int .u8 0, .int .u8 0, .int .u8 0, .int .u8 0, .int .u8 0, .int .u8 0, .int .u8 0, .int .u8 0, .int .u8 0, .int .u8 0, .int .u8 0, .int .u8 0, .int .u8 0, .int .u8 0, .int .u8 0, .int .u8 0, .int .u8 0, .int .u8 0, .int .u8 0, .int .u8 0, .int .u8 0, .int .u8 0, .int .u8 0, .int .u8 0, .int .u8 0, .int .u8 0, .int .u8 0, .int .u8 0, .int .u8 0, .int .u8 0, .int .u8 0, .int .u8 0, .int .u8 0, .int .u8 0, .int .u8 0, .int .u8 0, .int .u8 0, .int .u8 0, .int .u8 0, .int .u8 0, .int .u8 0, .int .u8 0, .int .u8 0, .int .u8 0, .int .u8 0, .int .u8 0, .int .u8 0, .int .u8 0, .int .u8 0, .int .u8 0, .int .u8 0, .int .u8 0, .int .u8 0, .int .u8 0, .int .u8 0, .int .u8 0, .int .u8 0, .int .u8 0, .int .u8 0, .int .u8 0, .int .u8 0, .int .u8 0, .int .u8 0, .int .u8 0] hZ rfl) ?_
      rintro W5 ⟨hb4, ch4⟩
      have zz4 := ch4.size
      refine Wk.rEnd 2 rfl ?_
      refine Wk.nxt ?_
      refine wp_ret ?_
      have kk4 := Wk.Chg.step HB ch4 ⟨.inr (by omega), trivial⟩
      refine Wk.ret (.agg (b8s (Mur.xorTo c k 64)).toArray) rfl (results_cell_row rfl _ _ W1.heap.size 56 (b8s (Mur.xorTo c k 64)).toArray (0, 0) _ (by kernel_rfl) hb4 Tryd.underlying56 rfl (by rw [List.size_toArray, Mur.b8s_length, hxl]; kernel_rfl)) ?_
      exact ⟨by rw [Mur.xorTo_all c k hk], kk4⟩
end Go.Proofs.YtljfjjofhclhiaaDoor
