/- adverts: the order, halves of a key, prefixes. adverts: where a result is. slices.Insert of a result. -/
import Derived.Test.YtfhneademopciaaDoorPQ3
import Derived.Test.YtfhneademopciaaDoorPQ5
namespace Go.Proofs.YtfhneademopciaaDoor
open Go.RowKit
open Mur (b8s Byt Own8 Seg Segs flat cutA attC Att SlA OwnA rowA)
set_option maxRecDepth 100000
set_option maxHeartbeats 4000000
def Idx15_F1 (b : Array Value) (u0 : Value) (u1 : Value) (u7 : Value) (u8 : Value) : Act := ⟨#[u0, u1, b.getD 2 undef, b.getD 3 undef, b.getD 4 undef, b.getD 5 undef, b.getD 6 undef, u7, u8, b.getD 9 undef, b.getD 10 undef, b.getD 11 undef, b.getD 12 undef, b.getD 13 undef, b.getD 14 undef, b.getD 15 undef, b.getD 16 undef, b.getD 17 undef, b.getD 18 undef], []⟩
theorem compare_any (x y : Att) (w : World) : Calls Tryd.prog 40 #[.agg (attC x.k x.r x.n x.t).toArray, .agg (attC y.k y.r y.n y.t).toArray] w fun e w' => e = .returned (.int .i64 (Mur.cmpA x y)) ∧ Wk.Chg [] w w' := by
  refine calls_of_wp Tryd.func40 rfl ?_
  refine wp_seq ?_
  refine Wk.reg ?_
  refine Wk.rEx 0 (some 2) _ rfl rfl (by kernel_rfl) (Wk.new_ex (.pointer (some ⟨w.heap.size, 0, none⟩)) ((Mur.attC x.k x.r x.n x.t).toArray) 32 (by kernel_rfl)) ?_
  rintro _ W1 ⟨rfl, hb1, ch1, sz1⟩
  have zz1 := ch1.size
  refine Wk.rEx 1 (some 3) _ rfl rfl (by kernel_rfl) (Wk.new_ex (.pointer (some ⟨W1.heap.size, 0, none⟩)) ((Mur.attC y.k y.r y.n y.t).toArray) 32 (by kernel_rfl)) ?_
  rintro _ W2 ⟨rfl, hb2, ch2, sz2⟩
  have zz2 := ch2.size
  refine Wk.rPure 2 (some 4) (.int .i64 0) rfl rfl (by kernel_rfl) (by kernel_rfl) ?_
  refine Wk.rEnd 3 rfl ?_
  refine Wk.nxt ?_
  refine wp_seq ?_
  refine wp_block ?_
  refine wp_seq ?_
  refine Wk.reg ?_
  refine Wk.rPure 0 (some 6) (.agg ((Mur.attC x.k x.r x.n x.t).toArray)) rfl rfl (by kernel_rfl) (Mur.loadArr 32 (.tmp 2) rfl _ Tryd.underlying32 rfl w.heap.size (by kernel_rfl) (Mur.attC x.k x.r x.n x.t).toArray 97 (Mur.attC_size x.hk x.hr x.ht) (by kernel_rfl) 32 (0, 0) (Wk.Chg.hp ch2 hb1 trivial)) ?_
  refine Wk.rPure 1 (some 7) (.agg ((Mur.attC y.k y.r y.n y.t).toArray)) rfl rfl (by kernel_rfl) (Mur.loadArr 32 (.tmp 3) rfl _ Tryd.underlying32 rfl W1.heap.size (by kernel_rfl) (Mur.attC y.k y.r y.n y.t).toArray 97 (Mur.attC_size y.hk y.hr y.ht) (by kernel_rfl) 32 (0, 0) hb2) ?_
  refine Wk.rCall 2 (some 8) 59 [.tmp 6, .tmp 7] #[32, 32] [.agg ((Mur.attC x.k x.r x.n x.t).toArray), .agg ((Mur.attC y.k y.r y.n y.t).toArray)] rfl rfl (by kernel_rfl) rfl (by kernel_rfl) (by kernel_rfl) ?_
  refine (Less_any x.k x.r x.t x.n x.hk x.hr x.ht y.k y.r y.t y.n y.hk y.hr y.ht W2).mono ?_
  by_cases hls1 : Go.Lib.compareBytes (Mur.rawL x.k x.r x.n x.t) (Mur.rawL y.k y.r y.n y.t) < 0
  · rw [decide_eq_true (hls1 : Go.Lib.compareBytes (Mur.rawL x.k x.r x.n x.t) (Mur.rawL y.k y.r y.n y.t) < 0)]
    rintro _ W3 ⟨rfl, ch3⟩
    have zz3 := ch3.size
    refine ⟨_, rfl, ?_⟩
    refine Wk.rPure 3 (some 5) (.bool true) rfl rfl (by kernel_rfl) (by kernel_rfl) ?_
    refine Wk.rEnd 4 rfl ?_
    refine Wk.nxt ?_
    refine wp_cond_true (by kernel_rfl) ?_
    refine wp_seq ?_
    refine Wk.reg ?_
    refine Wk.rPure 0 (some 4) (.int .i64 (-1)) rfl rfl (by kernel_rfl) (by kernel_rfl) ?_
    refine Wk.rEnd 1 rfl ?_
    refine Wk.nxt ?_
    refine wp_ret ?_
    refine Wk.inR ?_
    refine Wk.thR ?_
    have kk1 : Wk.Chg [] w W1 := Wk.Chg.step ((Wk.Chg.refl _).more (by simp)) ch1 trivial
    have kk2 := Wk.Chg.step kk1 ch2 trivial
    have kk3 := Wk.Chg.step kk2 ch3 trivial
    refine Wk.ret (.int .i64 (-1)) rfl (by kernel_rfl) ?_
    exact ⟨congrArg (fun z => Ending.returned (.int .i64 z)) (show (-1) = Mur.cmpA x y from (show Mur.cmpA x y = (-1) from if_pos hls1).symm), kk3⟩
  · rw [decide_eq_false (hls1 : ¬ Go.Lib.compareBytes (Mur.rawL x.k x.r x.n x.t) (Mur.rawL y.k y.r y.n y.t) < 0)]
    rintro _ W3 ⟨rfl, ch3⟩
    have zz4 := ch3.size
    refine ⟨_, rfl, ?_⟩
    refine Wk.rPure 3 (some 5) (.bool false) rfl rfl (by kernel_rfl) (by kernel_rfl) ?_
    refine Wk.rEnd 4 rfl ?_
    refine Wk.nxt ?_
    refine wp_cond_false (by kernel_rfl) ?_
    refine wp_seq ?_
    refine Wk.reg ?_
    refine Wk.rPure 0 (some 10) (.agg ((Mur.attC x.k x.r x.n x.t).toArray)) rfl rfl (by kernel_rfl) (Mur.loadArr 32 (.tmp 2) rfl _ Tryd.underlying32 rfl w.heap.size (by kernel_rfl) (Mur.attC x.k x.r x.n x.t).toArray 97 (Mur.attC_size x.hk x.hr x.ht) (by kernel_rfl) 32 (0, 0) (Wk.Chg.hp ch3 (Wk.Chg.hp ch2 hb1 trivial) trivial)) ?_
    refine Wk.rPure 1 (some 11) (.agg ((Mur.attC y.k y.r y.n y.t).toArray)) rfl rfl (by kernel_rfl) (Mur.loadArr 32 (.tmp 3) rfl _ Tryd.underlying32 rfl W1.heap.size (by kernel_rfl) (Mur.attC y.k y.r y.n y.t).toArray 97 (Mur.attC_size y.hk y.hr y.ht) (by kernel_rfl) 32 (0, 0) (Wk.Chg.hp ch3 hb2 trivial)) ?_
    by_cases hatt1 : x.k = y.k ∧ x.r = y.r ∧ x.n = y.n ∧ x.t = y.t
    · refine Wk.rPure 2 (some 12) (.bool true) rfl rfl (by kernel_rfl) (Wk.boolT (b := decide (x.k = y.k ∧ x.r = y.r ∧ x.n = y.n ∧ x.t = y.t)) (decide_eq_true (hatt1)) (run_eql_att (.tmp 10) (.tmp 11) 32 rfl x.hk x.hr x.ht y.hk y.hr y.ht x.hn y.hn (by kernel_rfl) (by kernel_rfl))) ?_
      refine Wk.rPure 3 (some 9) (.bool true) rfl rfl (by kernel_rfl) (by kernel_rfl) ?_
      refine Wk.rEnd 4 rfl ?_
      refine Wk.nxt ?_
      refine wp_cond_true (by kernel_rfl) ?_
      refine wp_seq ?_
      refine Wk.reg ?_
      refine Wk.rPure 0 (some 4) (.int .i64 0) rfl rfl (by kernel_rfl) (by kernel_rfl) ?_
      refine Wk.rEnd 1 rfl ?_
      refine Wk.nxt ?_
      refine wp_ret ?_
      refine Wk.inR ?_
      refine Wk.thR ?_
      have kk4 : Wk.Chg [] w W1 := Wk.Chg.step ((Wk.Chg.refl _).more (by simp)) ch1 trivial
      have kk5 := Wk.Chg.step kk4 ch2 trivial
      have kk6 := Wk.Chg.step kk5 ch3 trivial
      refine Wk.ret (.int .i64 0) rfl (by kernel_rfl) ?_
      exact ⟨congrArg (fun z => Ending.returned (.int .i64 z)) (show (0 : Int) = Mur.cmpA x y from (show Mur.cmpA x y = 0 from (if_neg hls1).trans (if_pos ((Mur.Att.eq_iff x y).2 hatt1))).symm), kk6⟩
    · refine Wk.rPure 2 (some 12) (.bool false) rfl rfl (by kernel_rfl) (Wk.boolF (b := decide (x.k = y.k ∧ x.r = y.r ∧ x.n = y.n ∧ x.t = y.t)) (decide_eq_false (hatt1)) (run_eql_att (.tmp 10) (.tmp 11) 32 rfl x.hk x.hr x.ht y.hk y.hr y.ht x.hn y.hn (by kernel_rfl) (by kernel_rfl))) ?_
      refine Wk.rPure 3 (some 9) (.bool false) rfl rfl (by kernel_rfl) (by kernel_rfl) ?_
      refine Wk.rEnd 4 rfl ?_
      refine Wk.nxt ?_
      refine wp_cond_false (by kernel_rfl) ?_
      refine wp_skip ?_
      refine Wk.inN ?_
      refine Wk.nxt ?_
      refine wp_seq ?_
      refine Wk.reg ?_
      refine Wk.rPure 0 (some 4) (.int .i64 1) rfl rfl (by kernel_rfl) (by kernel_rfl) ?_
      refine Wk.rEnd 1 rfl ?_
      refine Wk.nxt ?_
      refine wp_ret ?_
      have kk7 : Wk.Chg [] w W1 := Wk.Chg.step ((Wk.Chg.refl _).more (by simp)) ch1 trivial
      have kk8 := Wk.Chg.step kk7 ch2 trivial
      have kk9 := Wk.Chg.step kk8 ch3 trivial
      refine Wk.ret (.int .i64 1) rfl (by kernel_rfl) ?_
      exact ⟨congrArg (fun z => Ending.returned (.int .i64 z)) (show (1 : Int) = Mur.cmpA x y from (show Mur.cmpA x y = 1 from (if_neg hls1).trans (if_neg (fun q => hatt1 ((Mur.Att.eq_iff x y).1 q)))).symm), kk9⟩
theorem half_any (k : List UInt8) (i : Nat) (hk : k.length = 32) (hi : i < 64) (w : World) : Calls Tryd.prog 65 #[.agg (b8s k).toArray, .int .i64 ((i : Nat) : Int)] w fun e w' => e = .returned (.int .u8 (((Mur.nib k i).toNat : Nat) : Int)) ∧ Wk.Chg [] w w' := by
  refine calls_of_wp Tryd.func65 rfl ?_
  refine wp_seq ?_
  refine Wk.reg ?_
  refine Wk.rEx 0 (some 2) _ rfl rfl (by kernel_rfl) (Wk.new_ex (.pointer (some ⟨w.heap.size, 0, none⟩)) ((b8s k).toArray) 30 (by kernel_rfl)) ?_
  rintro _ W1 ⟨rfl, hb1, ch1, sz1⟩
  have zz1 := ch1.size
  refine Wk.rPure 1 (some 4) (.int .u8 0) rfl rfl (by kernel_rfl) (by kernel_rfl) ?_
  refine Wk.rEnd 2 rfl ?_
  refine Wk.nxt ?_
  refine wp_seq ?_
  refine wp_seq ?_
  refine Wk.reg ?_
  refine Wk.rPure 0 (some 5) (.int .i64 ((i : Nat) : Int)) rfl rfl (by kernel_rfl) (by kernel_rfl) ?_
  refine Wk.rPure 1 (some 6) (.int .i64 ((i % 2 : Nat) : Int)) rfl rfl (by kernel_rfl) (Wk.rem_nat 3 3 (.tmp 5) (.const (.int .i64 2)) rfl i 2 (by kernel_rfl) (by kernel_rfl) (by omega)) ?_
  by_cases hx1 : ((i % 2 : Nat) : Int) = (0 : Int)
  · refine Wk.rPure 2 (some 7) (.bool true) rfl rfl (by kernel_rfl) (Wk.boolT (b := (((i % 2 : Nat) : Int) == (0 : Int))) (beq_iff_eq.2 (by first | exact hx1 | omega)) (by kernel_rfl)) ?_
    refine Wk.rEnd 3 rfl ?_
    refine Wk.nxt ?_
    refine wp_cond_true (by kernel_rfl) ?_
    refine wp_seq ?_
    refine Wk.reg ?_
    refine Wk.rPure 0 (some 8) (.int .i64 ((i : Nat) : Int)) rfl rfl (by kernel_rfl) (by kernel_rfl) ?_
    refine Wk.rPure 1 (some 9) (.int .i64 ((i / 2 : Nat) : Int)) rfl rfl (by kernel_rfl) (Mur.quo_nat 3 3 (.tmp 8) (.const (.int .i64 2)) rfl i 2 (by kernel_rfl) (by kernel_rfl) (by omega) (by omega)) ?_
    refine Wk.rPure 2 (some 10) (.pointer (some ⟨w.heap.size, 0 + (i / 2) * 1, none⟩)) rfl rfl (by kernel_rfl) (Wk.index_arr 30 5 (.tmp 2) (.tmp 9) rfl 32 Tryd.underlying30 1 (by kernel_rfl) w.heap.size 0 (i / 2) .i64 (by kernel_rfl) (by kernel_rfl) (by omega)) ?_
    refine Wk.rPure 3 (some 11) (.int .u8 (((k.getD (i / 2) 0).toNat : Nat) : Int)) rfl rfl (by kernel_rfl) (Wk.load1 5 (.tmp 10) rfl (by kernel_rfl) ⟨w.heap.size, 0 + (i / 2) * 1, none⟩ (by kernel_rfl) (.int .u8 (((k.getD (i / 2) 0).toNat : Nat) : Int)) (Mur.blk_cell k hb1 (i / 2) (by rw [hk]; omega))) ?_
    refine Wk.rPure 4 (some 12) (.int .u8 ((((k.getD (i / 2) 0) >>> 4).toNat : Nat) : Int)) rfl rfl (by kernel_rfl) (Mur.shr8_4 5 109 (.tmp 11) (.const (.int .u64 4)) rfl (k.getD (i / 2) 0) (by kernel_rfl) (by kernel_rfl)) ?_
    refine Wk.rPure 5 (some 4) (.int .u8 ((((k.getD (i / 2) 0) >>> 4).toNat : Nat) : Int)) rfl rfl (by kernel_rfl) (by kernel_rfl) ?_
    refine Wk.rEnd 6 rfl ?_
    refine Wk.nxt ?_
    refine wp_ret ?_
    refine Wk.thR ?_
    have kk1 : Wk.Chg [] w W1 := Wk.Chg.step ((Wk.Chg.refl _).more (by simp)) ch1 trivial
    refine Wk.ret (.int .u8 ((((k.getD (i / 2) 0) >>> 4).toNat : Nat) : Int)) rfl (by kernel_rfl) ?_
    exact ⟨by unfold Mur.nib; rw [if_pos (by omega)], kk1⟩
  · refine Wk.rPure 2 (some 7) (.bool false) rfl rfl (by kernel_rfl) (Wk.boolF (b := (((i % 2 : Nat) : Int) == (0 : Int))) (beq_eq_false_iff_ne.2 (by first | exact hx1 | omega)) (by kernel_rfl)) ?_
    refine Wk.rEnd 3 rfl ?_
    refine Wk.nxt ?_
    refine wp_cond_false (by kernel_rfl) ?_
    refine wp_skip ?_
    refine Wk.nxt ?_
    refine wp_seq ?_
    refine Wk.reg ?_
    refine Wk.rPure 0 (some 13) (.int .i64 ((i : Nat) : Int)) rfl rfl (by kernel_rfl) (by kernel_rfl) ?_
    refine Wk.rPure 1 (some 14) (.int .i64 ((i / 2 : Nat) : Int)) rfl rfl (by kernel_rfl) (Mur.quo_nat 3 3 (.tmp 13) (.const (.int .i64 2)) rfl i 2 (by kernel_rfl) (by kernel_rfl) (by omega) (by omega)) ?_
    refine Wk.rPure 2 (some 15) (.pointer (some ⟨w.heap.size, 0 + (i / 2) * 1, none⟩)) rfl rfl (by kernel_rfl) (Wk.index_arr 30 5 (.tmp 2) (.tmp 14) rfl 32 Tryd.underlying30 1 (by kernel_rfl) w.heap.size 0 (i / 2) .i64 (by kernel_rfl) (by kernel_rfl) (by omega)) ?_
    refine Wk.rPure 3 (some 16) (.int .u8 (((k.getD (i / 2) 0).toNat : Nat) : Int)) rfl rfl (by kernel_rfl) (Wk.load1 5 (.tmp 15) rfl (by kernel_rfl) ⟨w.heap.size, 0 + (i / 2) * 1, none⟩ (by kernel_rfl) (.int .u8 (((k.getD (i / 2) 0).toNat : Nat) : Int)) (Mur.blk_cell k hb1 (i / 2) (by rw [hk]; omega))) ?_
    refine Wk.rPure 4 (some 17) (.int .u8 ((((k.getD (i / 2) 0) &&& 15).toNat : Nat) : Int)) rfl rfl (by kernel_rfl) (Mur.and8_15 5 5 (.tmp 16) (.const (.int .u8 15)) rfl (k.getD (i / 2) 0) (by kernel_rfl) (by kernel_rfl)) ?_
    refine Wk.rPure 5 (some 4) (.int .u8 ((((k.getD (i / 2) 0) &&& 15).toNat : Nat) : Int)) rfl rfl (by kernel_rfl) (by kernel_rfl) ?_
    refine Wk.rEnd 6 rfl ?_
    refine Wk.nxt ?_
    refine wp_ret ?_
    have kk2 : Wk.Chg [] w W1 := Wk.Chg.step ((Wk.Chg.refl _).more (by simp)) ch1 trivial
    refine Wk.ret (.int .u8 ((((k.getD (i / 2) 0) &&& 15).toNat : Nat) : Int)) rfl (by kernel_rfl) ?_
    exact ⟨by unfold Mur.nib; rw [if_neg (by omega)], kk2⟩
theorem over_any (x : UInt8) (w : World) : Calls Tryd.prog 46 #[.int .u8 ((x.toNat : Nat) : Int)] w fun e w' => e = .returned (.bool (decide (15 < x))) ∧ w = w' := by
  refine calls_of_wp Tryd.func46 rfl ?_
  refine wp_seq ?_
  refine Wk.reg ?_
  refine Wk.rPure 0 (some 2) (.bool false) rfl rfl (by kernel_rfl) (by kernel_rfl) ?_
  refine Wk.rEnd 1 rfl ?_
  refine Wk.nxt ?_
  refine wp_seq ?_
  refine Wk.reg ?_
  refine Wk.rPure 0 (some 3) (.int .u8 ((x.toNat : Nat) : Int)) rfl rfl (by kernel_rfl) (by kernel_rfl) ?_
  by_cases hx1 : ((x.toNat : Nat) : Int) > (15 : Int)
  · refine Wk.rPure 1 (some 4) (.bool true) rfl rfl (by kernel_rfl) (Wk.boolT (b := decide (((x.toNat : Nat) : Int) > (15 : Int))) (decide_eq_true (by first | exact hx1 | omega)) (by kernel_rfl)) ?_
    refine Wk.rPure 2 (some 2) (.bool true) rfl rfl (by kernel_rfl) (by kernel_rfl) ?_
    refine Wk.rEnd 3 rfl ?_
    refine Wk.nxt ?_
    refine wp_ret ?_
    refine Wk.ret (.bool true) rfl (by kernel_rfl) ?_
    exact ⟨by rw [decide_eq_true (show 15 < x by rw [UInt8.lt_iff_toNat_lt]; show 15 < x.toNat; omega)], rfl⟩
  · refine Wk.rPure 1 (some 4) (.bool false) rfl rfl (by kernel_rfl) (Wk.boolF (b := decide (((x.toNat : Nat) : Int) > (15 : Int))) (decide_eq_false (by first | exact hx1 | omega)) (by kernel_rfl)) ?_
    refine Wk.rPure 2 (some 2) (.bool false) rfl rfl (by kernel_rfl) (by kernel_rfl) ?_
    refine Wk.rEnd 3 rfl ?_
    refine Wk.nxt ?_
    refine wp_ret ?_
    refine Wk.ret (.bool false) rfl (by kernel_rfl) ?_
    exact ⟨by rw [decide_eq_false (show ¬ 15 < x by rw [UInt8.lt_iff_toNat_lt]; show ¬ 15 < x.toNat; omega)], rfl⟩
theorem index15_any (l : List UInt8) (A : Option Addr) (n c : Nat) (w : World) (hb : Byt w A n l) (hn : n ≤ 9223372036854775807) : Calls Tryd.prog 68 #[.slice A n c, .func (.func 46) #[] #[]] w fun e w' => ∃ r : Int, e = .returned (.int .i64 r) ∧ (0 ≤ r ↔ (l.all fun x => decide (x ≤ 15)) = false) ∧ w = w' := by
  have HB := Go.Lib.hid hb
  clear hb
  refine calls_of_wp Tryd.func68 rfl ?_
  refine wp_seq ?_
  refine Wk.reg ?_
  refine Wk.rPure 0 (some 4) (.int .i64 0) rfl rfl (by kernel_rfl) (by kernel_rfl) ?_
  refine Wk.rEnd 1 rfl ?_
  refine Wk.nxt ?_
  refine wp_seq ?_
  refine wp_seq ?_
  refine Wk.reg ?_
  refine Wk.rPure 0 (some 6) (.slice A n c) rfl rfl (by kernel_rfl) (by kernel_rfl) ?_
  refine Wk.rPure 1 (some 7) (.int .i64 ((n : Nat) : Int)) rfl rfl (by kernel_rfl) (by kernel_rfl) ?_
  refine Wk.rPure 2 (some 8) (.int .i64 0) rfl rfl (by kernel_rfl) (by kernel_rfl) ?_
  refine Wk.rEnd 3 rfl ?_
  refine Wk.nxt ?_
  refine wp_block ?_
  refine Wk.loop (fun m_ a wr => ∃ (i : Nat), m_ = n - i ∧ a = Idx15_F1 a.tmps (.slice A n c) (.func (.func 46) #[] #[]) (.int .i64 ((n : Nat) : Int)) (.int .i64 ((i : Nat) : Int)) ∧ i ≤ n ∧ (∀ j, j < i → (l.getD j 0) ≤ 15) ∧ wr = w) (n - 0) ?_ ?_
  · refine ⟨0, rfl, by kernel_rfl, Nat.zero_le _, (fun j h => by omega), rfl⟩
  · rintro mm1 aa1 W1 ⟨i, hmm1, hF1, hi, hall, hw⟩
    generalize aa1.tmps = bb1 at hF1
    subst hF1
    subst hw
    by_cases hlt : i < n
    · obtain ⟨q, off, rfl, hcc⟩ := HB.out.2 (by omega)
      refine wp_seq ?_
      refine Wk.reg ?_
      refine Wk.rPure 0 (some 9) (.bool true) rfl rfl (by kernel_rfl) (Wk.boolT (b := decide (((i : Nat) : Int) < ((n : Nat) : Int))) (decide_eq_true (by omega)) (by kernel_rfl)) ?_
      refine Wk.rEnd 1 rfl ?_
      refine Wk.nxt ?_
      refine wp_seq ?_
      refine wp_cond_true (by kernel_rfl) ?_
      refine wp_skip ?_
      refine Wk.nxt ?_
      refine wp_seq ?_
      refine wp_block ?_
      refine wp_seq ?_
      refine Wk.reg ?_
      refine Wk.rPure 0 (some 10) (.int .i64 ((i : Nat) : Int)) rfl rfl (by kernel_rfl) (by kernel_rfl) ?_
      refine Wk.rPure 1 (some 5) (.int .i64 ((i : Nat) : Int)) rfl rfl (by kernel_rfl) (by kernel_rfl) ?_
      refine Wk.rEnd 2 rfl ?_
      refine Wk.nxt ?_
      refine wp_seq ?_
      refine Wk.reg ?_
      refine Wk.rPure 0 (some 11) (.func (.func 46) #[] #[]) rfl rfl (by kernel_rfl) (by kernel_rfl) ?_
      refine Wk.rPure 1 (some 12) (.slice (some ⟨q, off, none⟩) n c) rfl rfl (by kernel_rfl) (by kernel_rfl) ?_
      refine Wk.rPure 2 (some 13) (.int .i64 ((i : Nat) : Int)) rfl rfl (by kernel_rfl) (by kernel_rfl) ?_
      refine Wk.rPure 3 (some 14) (.pointer (some ⟨q, off + i * 1, none⟩)) rfl rfl (by kernel_rfl) (Wk.index_sl 38 5 (.tmp 12) (.tmp 13) rfl Tryd.underlying38 1 (by kernel_rfl) q off n c i .i64 (by kernel_rfl) (by kernel_rfl) (by omega)) ?_
      refine Wk.rPure 4 (some 15) (.int .u8 (((l.getD i 0).toNat : Nat) : Int)) rfl rfl (by kernel_rfl) (Wk.load1 5 (.tmp 14) rfl (by kernel_rfl) ⟨q, off + i * 1, none⟩ (by kernel_rfl) (.int .u8 (((l.getD i 0).toNat : Nat) : Int)) (Mur.byt_cell HB.out i (by omega))) ?_
      refine Wk.rCallV 5 (some 16) (.tmp 11) 46 #[] [.tmp 15] #[5] [.int .u8 (((l.getD i 0).toNat : Nat) : Int)] rfl rfl (by kernel_rfl) rfl (by kernel_rfl) (by kernel_rfl) (by kernel_rfl) ?_
      refine (over_any (l.getD i 0) W1).mono ?_
      by_cases hov1 : 15 < (l.getD i 0)
      · rw [decide_eq_true hov1]
        rintro _ _ ⟨rfl, rfl⟩
        refine ⟨_, rfl, ?_⟩
        refine Wk.rEnd 6 rfl ?_
        refine Wk.nxt ?_
        refine wp_cond_true (by kernel_rfl) ?_
        refine wp_seq ?_
        refine Wk.reg ?_
        refine Wk.rPure 0 (some 17) (.int .i64 ((i : Nat) : Int)) rfl rfl (by kernel_rfl) (by kernel_rfl) ?_
        refine Wk.rPure 1 (some 4) (.int .i64 ((i : Nat) : Int)) rfl rfl (by kernel_rfl) (by kernel_rfl) ?_
        refine Wk.rEnd 2 rfl ?_
        refine Wk.nxt ?_
        refine wp_ret ?_
        refine Wk.inR ?_
        refine Wk.thR ?_
        refine Wk.thR ?_
        refine Wk.inR ?_
        refine Wk.thR ?_
        refine Wk.ret (.int .i64 ((i : Nat) : Int)) rfl (by kernel_rfl) ?_
        exact ⟨_, rfl, by rw [show (l.all fun x => decide (x ≤ 15)) = false from Mur.some15 HB.out.1 hlt hov1]; simp, rfl⟩
      · rw [decide_eq_false hov1]
        rintro _ _ ⟨rfl, rfl⟩
        refine ⟨_, rfl, ?_⟩
        refine Wk.rEnd 6 rfl ?_
        refine Wk.nxt ?_
        refine wp_cond_false (by kernel_rfl) ?_
        refine wp_skip ?_
        refine Wk.inN ?_
        refine Wk.nxt ?_
        refine Wk.reg ?_
        refine Wk.rPure 0 (some 18) (.int .i64 ((i + 1 : Nat) : Int)) rfl rfl (by kernel_rfl) (Wk.int64 (n := ((i : Nat) : Int) + 1) (z := ((i + 1 : Nat) : Int)) (by omega) (by omega) (by omega) (by kernel_rfl)) ?_
        refine Wk.rPure 1 (some 8) (.int .i64 ((i + 1 : Nat) : Int)) rfl rfl (by kernel_rfl) (by kernel_rfl) ?_
        refine Wk.rEnd 2 rfl ?_
        refine Wk.nxt ?_
        refine ⟨_, ?_, i + 1, rfl, by kernel_rfl, (by omega), (fun j hj => by rcases Nat.lt_or_ge j i with h1 | h1 <;> first | exact hall j h1 | (obtain rfl : j = i := (by omega); exact UInt8.not_lt.1 hov1)), rfl⟩
        · omega
    · refine wp_seq ?_
      refine Wk.reg ?_
      refine Wk.rPure 0 (some 9) (.bool false) rfl rfl (by kernel_rfl) (Wk.boolF (b := decide (((i : Nat) : Int) < ((n : Nat) : Int))) (decide_eq_false (by omega)) (by kernel_rfl)) ?_
      refine Wk.rEnd 1 rfl ?_
      refine Wk.nxt ?_
      refine wp_seq ?_
      refine wp_cond_false (by kernel_rfl) ?_
      refine wp_exit ?_
      refine Wk.thX ?_
      refine Wk.thX ?_
      refine Wk.inX ?_
      refine Wk.nxt ?_
      refine wp_seq ?_
      refine Wk.reg ?_
      refine Wk.rPure 0 (some 4) (.int .i64 (-1)) rfl rfl (by kernel_rfl) (by kernel_rfl) ?_
      refine Wk.rEnd 1 rfl ?_
      refine Wk.nxt ?_
      refine wp_ret ?_
      refine Wk.ret (.int .i64 (-1)) rfl (by kernel_rfl) ?_
      exact ⟨_, rfl, by rw [show (l.all fun x => decide (x ≤ 15)) = true from Mur.all15 HB.out.1 (fun j hj => hall j (by omega))]; simp, rfl⟩
theorem contains15_any (l : List UInt8) (A : Option Addr) (n c : Nat) (w : World) (hb : Byt w A n l) (hn : n ≤ 9223372036854775807) : Calls Tryd.prog 45 #[.slice A n c, .func (.func 46) #[] #[]] w fun e w' => e = .returned (.bool (!(l.all fun x => decide (x ≤ 15)))) ∧ w = w' := by
  refine calls_of_wp Tryd.func45 rfl ?_
  refine wp_seq ?_
  refine Wk.reg ?_
  refine Wk.rPure 0 (some 4) (.bool false) rfl rfl (by kernel_rfl) (by kernel_rfl) ?_
  refine Wk.rEnd 1 rfl ?_
  refine Wk.nxt ?_
  refine wp_seq ?_
  refine Wk.reg ?_
  refine Wk.rPure 0 (some 5) (.slice A n c) rfl rfl (by kernel_rfl) (by kernel_rfl) ?_
  refine Wk.rPure 1 (some 6) (.func (.func 46) #[] #[]) rfl rfl (by kernel_rfl) (by kernel_rfl) ?_
  refine Wk.rCall 2 (some 7) 68 [.tmp 5, .tmp 6] #[38, 90] [.slice A n c, .func (.func 46) #[] #[]] rfl rfl (by kernel_rfl) rfl (by kernel_rfl) (by kernel_rfl) ?_
  refine (index15_any l A n c w hb (by omega)).mono ?_
  rintro _ _ ⟨r_1, rfl, hr1, rfl⟩
  refine ⟨_, rfl, ?_⟩
  by_cases hx1 : r_1 ≥ (0 : Int)
  · refine Wk.rPure 3 (some 8) (.bool true) rfl rfl (by kernel_rfl) (Wk.boolT (b := decide (r_1 ≥ (0 : Int))) (decide_eq_true (by first | exact hx1 | omega)) (by kernel_rfl)) ?_
    refine Wk.rPure 4 (some 4) (.bool true) rfl rfl (by kernel_rfl) (by kernel_rfl) ?_
    refine Wk.rEnd 5 rfl ?_
    refine Wk.nxt ?_
    refine wp_ret ?_
    refine Wk.ret (.bool true) rfl (by kernel_rfl) ?_
    exact ⟨by rw [show (l.all fun x => decide (x ≤ 15)) = false from by first | exact hr1.1 (by omega) | (cases hq : (l.all fun x => decide (x ≤ 15)) <;> first | rfl | exact absurd (hr1.2 hq) (by omega))]; rfl, rfl⟩
  · refine Wk.rPure 3 (some 8) (.bool false) rfl rfl (by kernel_rfl) (Wk.boolF (b := decide (r_1 ≥ (0 : Int))) (decide_eq_false (by first | exact hx1 | omega)) (by kernel_rfl)) ?_
    refine Wk.rPure 4 (some 4) (.bool false) rfl rfl (by kernel_rfl) (by kernel_rfl) ?_
    refine Wk.rEnd 5 rfl ?_
    refine Wk.nxt ?_
    refine wp_ret ?_
    refine Wk.ret (.bool false) rfl (by kernel_rfl) ?_
    exact ⟨by rw [show (l.all fun x => decide (x ≤ 15)) = true from by first | exact hr1.1 (by omega) | (cases hq : (l.all fun x => decide (x ≤ 15)) <;> first | rfl | exact absurd (hr1.2 hq) (by omega))]; rfl, rfl⟩
theorem IsPrefix_any (l : List UInt8) (A : Option Addr) (n c : Nat) (w : World) (hb : Byt w A n l) (hn : n ≤ 9223372036854775807) : Calls Tryd.prog 19 #[.slice A n c] w fun e w' => e = .returned (.bool (Mur.isPre l)) ∧ w = w' := by
  refine calls_of_wp Tryd.func19 rfl ?_
  refine wp_seq ?_
  refine Wk.reg ?_
  refine Wk.rPure 0 (some 2) (.bool false) rfl rfl (by kernel_rfl) (by kernel_rfl) ?_
  refine Wk.rEnd 1 rfl ?_
  refine Wk.nxt ?_
  refine wp_seq ?_
  refine Wk.reg ?_
  refine Wk.rPure 0 (some 3) (.slice A n c) rfl rfl (by kernel_rfl) (by kernel_rfl) ?_
  refine Wk.rPure 1 (some 4) (.int .i64 ((n : Nat) : Int)) rfl rfl (by kernel_rfl) (by kernel_rfl) ?_
  by_cases hx1 : ((n : Nat) : Int) ≤ (8 : Int)
  · refine Wk.rPure 2 (some 5) (.bool true) rfl rfl (by kernel_rfl) (Wk.boolT (b := decide (((n : Nat) : Int) ≤ (8 : Int))) (decide_eq_true (by first | exact hx1 | omega)) (by kernel_rfl)) ?_
    refine Wk.rPure 3 (some 6) (.bool true) rfl rfl (by kernel_rfl) (by kernel_rfl) ?_
    refine Wk.rPure 4 (some 7) (.slice A n c) rfl rfl (by kernel_rfl) (by kernel_rfl) ?_
    refine Wk.rCall 5 (some 8) 45 [.tmp 7, .func 46] #[38, 90] [.slice A n c, .func (.func 46) #[] #[]] rfl rfl (by kernel_rfl) rfl (by kernel_rfl) (by kernel_rfl) ?_
    refine (contains15_any l A n c w hb (by omega)).mono ?_
    cases hal1 : (l.all fun x => decide (x ≤ 15))
    · rintro _ _ ⟨rfl, rfl⟩
      refine ⟨_, rfl, ?_⟩
      refine Wk.rPure 6 (some 9) (.bool false) rfl rfl (by kernel_rfl) (by kernel_rfl) ?_
      refine Wk.rPure 7 (some 10) (.bool false) rfl rfl (by kernel_rfl) (by kernel_rfl) ?_
      refine Wk.rPure 8 (some 2) (.bool false) rfl rfl (by kernel_rfl) (by kernel_rfl) ?_
      refine Wk.rEnd 9 rfl ?_
      refine Wk.nxt ?_
      refine wp_ret ?_
      refine Wk.ret (.bool false) rfl (by kernel_rfl) ?_
      exact ⟨by rw [show Mur.isPre l = false from by unfold Mur.isPre; rw [hal1]; rfl], rfl⟩
    · rintro _ _ ⟨rfl, rfl⟩
      refine ⟨_, rfl, ?_⟩
      refine Wk.rPure 6 (some 9) (.bool true) rfl rfl (by kernel_rfl) (by kernel_rfl) ?_
      refine Wk.rPure 7 (some 10) (.bool true) rfl rfl (by kernel_rfl) (by kernel_rfl) ?_
      refine Wk.rPure 8 (some 2) (.bool true) rfl rfl (by kernel_rfl) (by kernel_rfl) ?_
      refine Wk.rEnd 9 rfl ?_
      refine Wk.nxt ?_
      refine wp_ret ?_
      refine Wk.ret (.bool true) rfl (by kernel_rfl) ?_
      exact ⟨by rw [show Mur.isPre l = true from by unfold Mur.isPre; rw [hal1]; have := hb.1; simp; omega], rfl⟩
  · refine Wk.rPure 2 (some 5) (.bool false) rfl rfl (by kernel_rfl) (Wk.boolF (b := decide (((n : Nat) : Int) ≤ (8 : Int))) (decide_eq_false (by first | exact hx1 | omega)) (by kernel_rfl)) ?_
    refine Wk.rPure 3 (some 6) (.bool false) rfl rfl (by kernel_rfl) (by kernel_rfl) ?_
    refine Wk.rPass 4 (some 7) rfl rfl (by kernel_rfl) ?_
    refine Wk.rPass 5 (some 8) rfl rfl (by kernel_rfl) ?_
    refine Wk.rPass 6 (some 9) rfl rfl (by kernel_rfl) ?_
    refine Wk.rPure 7 (some 10) (.bool false) rfl rfl (by kernel_rfl) (by kernel_rfl) ?_
    refine Wk.rPure 8 (some 2) (.bool false) rfl rfl (by kernel_rfl) (by kernel_rfl) ?_
    refine Wk.rEnd 9 rfl ?_
    refine Wk.nxt ?_
    refine wp_ret ?_
    refine Wk.ret (.bool false) rfl (by kernel_rfl) ?_
    exact ⟨by rw [show Mur.isPre l = false from by unfold Mur.isPre; have := hb.1; simp; omega], rfl⟩
end Go.Proofs.YtfhneademopciaaDoor
namespace Go.Proofs.YtfhneademopciaaDoor
open Go.RowKit
open Mur (b8s Byt Own8 Seg Segs flat cutA attC Att SlA OwnA rowA)
set_option maxRecDepth 100000
set_option maxHeartbeats 4000000
def Srch_F1 (b : Array Value) (u0 : Value) (u2 : Value) (u4 : Value) (u8 : Value) (u9 : Value) (u10 : Value) : Act := ⟨#[u0, b.getD 1 undef, u2, b.getD 3 undef, u4, b.getD 5 undef, b.getD 6 undef, b.getD 7 undef, u8, u9, u10, b.getD 11 undef, b.getD 12 undef, b.getD 13 undef, b.getD 14 undef, b.getD 15 undef, b.getD 16 undef, b.getD 17 undef, b.getD 18 undef, b.getD 19 undef, b.getD 20 undef, b.getD 21 undef, b.getD 22 undef, b.getD 23 undef, b.getD 24 undef, b.getD 25 undef, b.getD 26 undef, b.getD 27 undef, b.getD 28 undef, b.getD 29 undef, b.getD 30 undef, b.getD 31 undef, b.getD 32 undef, b.getD 33 undef, b.getD 34 undef, b.getD 35 undef, b.getD 36 undef, b.getD 37 undef, b.getD 38 undef, b.getD 39 undef, b.getD 40 undef, b.getD 41 undef, b.getD 42 undef, b.getD 43 undef, b.getD 44 undef, b.getD 45 undef, b.getD 46 undef, b.getD 47 undef, b.getD 48 undef], []⟩
theorem Search_any (L : List Att) (hs : Mur.Sorted L) (A : Option Addr) (n c : Nat) (x : Att) (w : World) (hb : SlA w A n L) (hn : n ≤ 100000) : Calls Tryd.prog 39 #[.slice A n c, .agg (attC x.k x.r x.n x.t).toArray, .func (.func 40) #[] #[]] w fun e w' => e = .returned (.tuple #[.int .i64 ((Mur.pos x L : Nat) : Int), .bool (decide (x ∈ L))]) ∧ Wk.Chg [] w w' := by
  refine calls_of_wp Tryd.func39 rfl ?_
  refine wp_seq ?_
  refine Wk.reg ?_
  refine Wk.rEx 0 (some 4) _ rfl rfl (by kernel_rfl) (Wk.new_ex (.pointer (some ⟨w.heap.size, 0, none⟩)) ((Mur.attC x.k x.r x.n x.t).toArray) 32 (by kernel_rfl)) ?_
  rintro _ W1 ⟨rfl, hb1, ch1, sz1⟩
  have zz1 := ch1.size
  refine Wk.rPure 1 (some 6) (.int .i64 0) rfl rfl (by kernel_rfl) (by kernel_rfl) ?_
  refine Wk.rPure 2 (some 7) (.bool false) rfl rfl (by kernel_rfl) (by kernel_rfl) ?_
  refine Wk.rEnd 3 rfl ?_
  refine Wk.nxt ?_
  refine wp_seq ?_
  refine Wk.reg ?_
  refine Wk.rPure 0 (some 12) (.slice A n c) rfl rfl (by kernel_rfl) (by kernel_rfl) ?_
  refine Wk.rPure 1 (some 13) (.int .i64 ((n : Nat) : Int)) rfl rfl (by kernel_rfl) (by kernel_rfl) ?_
  refine Wk.rPure 2 (some 8) (.int .i64 ((n : Nat) : Int)) rfl rfl (by kernel_rfl) (by kernel_rfl) ?_
  refine Wk.rEnd 3 rfl ?_
  refine Wk.nxt ?_
  refine wp_seq ?_
  refine Wk.reg ?_
  refine Wk.rPure 0 (some 14) (.int .i64 ((n : Nat) : Int)) rfl rfl (by kernel_rfl) (by kernel_rfl) ?_
  refine Wk.rPure 1 (some 9) (.int .i64 0) rfl rfl (by kernel_rfl) (by kernel_rfl) ?_
  refine Wk.rPure 2 (some 10) (.int .i64 ((n : Nat) : Int)) rfl rfl (by kernel_rfl) (by kernel_rfl) ?_
  refine Wk.rEnd 3 rfl ?_
  refine Wk.nxt ?_
  refine wp_seq ?_
  refine wp_block ?_
  refine Wk.loop (fun m_ a wr => ∃ (i : Nat) (j : Nat), m_ = j - i ∧ a = Srch_F1 a.tmps (.slice A n c) (.func (.func 40) #[] #[]) (.pointer (some ⟨w.heap.size, 0, none⟩)) (.int .i64 ((n : Nat) : Int)) (.int .i64 ((i : Nat) : Int)) (.int .i64 ((j : Nat) : Int)) ∧ (i ≤ Mur.pos x L ∧ Mur.pos x L ≤ j ∧ j ≤ n) ∧ wr.heap[w.heap.size]? = some (.cells (Mur.attC x.k x.r x.n x.t).toArray 32 (0, 0)) ∧ Wk.Chg [] w wr) (n - 0) ?_ ?_
  · have kk1 : Wk.Chg [] w W1 := Wk.Chg.step ((Wk.Chg.refl _).more (by simp)) ch1 trivial
    refine ⟨0, n, rfl, by kernel_rfl, ⟨by omega, by have := Mur.pos_le x L; have := hb.len; omega, Nat.le_refl _⟩, hb1, kk1⟩
  · rintro mm1 aa1 W2 ⟨i, j, hmm1, hF1, hij, hbx, HC⟩
    generalize aa1.tmps = bb1 at hF1
    subst hF1
    have hzC := HC.size
    have hxl := (Array.getElem?_eq_some_iff.1 hbx).1
    by_cases hlt : i < j
    · obtain ⟨g, off, rfl, _⟩ := hb.ex (by omega)
      obtain ⟨y, hy⟩ : ∃ y, L[(i + j) / 2]? = some y := ⟨_, List.getElem?_eq_getElem (by have := hb.len; omega)⟩
      by_cases hyx : y.lt x
      · have hpo : (i + j) / 2 < Mur.pos x L := (Mur.pos_lt hs hy).1 hyx
        refine wp_seq ?_
        refine wp_seq ?_
        refine Wk.reg ?_
        refine Wk.rPure 0 (some 15) (.int .i64 ((i : Nat) : Int)) rfl rfl (by kernel_rfl) (by kernel_rfl) ?_
        refine Wk.rPure 1 (some 16) (.int .i64 ((j : Nat) : Int)) rfl rfl (by kernel_rfl) (by kernel_rfl) ?_
        refine Wk.rPure 2 (some 17) (.bool true) rfl rfl (by kernel_rfl) (Wk.boolT (b := decide (((i : Nat) : Int) < ((j : Nat) : Int))) (decide_eq_true (by omega)) (by kernel_rfl)) ?_
        refine Wk.rEnd 3 rfl ?_
        refine Wk.nxt ?_
        refine wp_cond_true (by kernel_rfl) ?_
        refine wp_skip ?_
        refine Wk.nxt ?_
        refine wp_block ?_
        refine wp_seq ?_
        refine Wk.reg ?_
        refine Wk.rPure 0 (some 18) (.int .i64 ((i : Nat) : Int)) rfl rfl (by kernel_rfl) (by kernel_rfl) ?_
        refine Wk.rPure 1 (some 19) (.int .i64 ((j : Nat) : Int)) rfl rfl (by kernel_rfl) (by kernel_rfl) ?_
        refine Wk.rPure 2 (some 20) (.int .i64 ((i + j : Nat) : Int)) rfl rfl (by kernel_rfl) (Wk.int64 (n := ((i : Nat) : Int) + ((j : Nat) : Int)) (z := ((i + j : Nat) : Int)) (by omega) (by omega) (by omega) (by kernel_rfl)) ?_
        refine Wk.rPure 3 (some 21) (.int .u64 ((i + j : Nat) : Int)) rfl rfl (by kernel_rfl) (Mur.conv_int 3 109 (.tmp 20) rfl (by kernel_rfl) .u64 Tryd.underlying109 .i64 ((i + j : Nat) : Int) (by kernel_rfl) (Mur.u64_nat (by omega))) ?_
        refine Wk.rPure 4 (some 22) (.int .u64 (((i + j) / 2 : Nat) : Int)) rfl rfl (by kernel_rfl) (Mur.shr64 109 109 (.tmp 21) (.const (.int .u64 1)) rfl (i + j) 1 .u64 (by kernel_rfl) (by kernel_rfl) (by omega) 2 rfl) ?_
        refine Wk.rPure 5 (some 23) (.int .i64 (((i + j) / 2 : Nat) : Int)) rfl rfl (by kernel_rfl) (Mur.conv_int 109 3 (.tmp 22) rfl (by kernel_rfl) .i64 Tryd.underlying3 .u64 (((i + j) / 2 : Nat) : Int) (by kernel_rfl) (Mur.i64_nat (by omega))) ?_
        refine Wk.rPure 6 (some 11) (.int .i64 (((i + j) / 2 : Nat) : Int)) rfl rfl (by kernel_rfl) (by kernel_rfl) ?_
        refine Wk.rEnd 7 rfl ?_
        refine Wk.nxt ?_
        refine wp_seq ?_
        refine Wk.dReg ([]) (by kernel_rfl) ?_
        intro W3 ch2 sz2
        have zz2 := ch2.size
        have sS1 : Wk.Chg ([]) W3 W3 := (Wk.Chg.refl _).more (by simp)
        refine Wk.dVal 0 (some 24) (.func (.func 40) #[] #[]) rfl rfl (by kernel_rfl) (by kernel_rfl) (by kernel_rfl) (fun _ _ _ h => h) (by kernel_rfl) (fun w' hw' => by kernel_rfl) sS1 ?_
        refine Wk.dVal 1 (some 25) (.slice (some ⟨g, off, none⟩) n c) rfl rfl (by kernel_rfl) (by kernel_rfl) (by kernel_rfl) (fun _ _ _ h => h) (by kernel_rfl) (fun w' hw' => by kernel_rfl) sS1 ?_
        refine Wk.dVal 2 (some 26) (.int .i64 (((i + j) / 2 : Nat) : Int)) rfl rfl (by kernel_rfl) (by kernel_rfl) (by kernel_rfl) (fun _ _ _ h => h) (by kernel_rfl) (fun w' hw' => by kernel_rfl) sS1 ?_
        refine Wk.dVal 3 (some 27) (.pointer (some ⟨g, off + ((i + j) / 2) * 97, none⟩)) rfl rfl (by kernel_rfl) (by kernel_rfl) (by kernel_rfl) (fun _ _ _ h => h) (by kernel_rfl) (fun w' hw' => (Wk.index_sl 22 32 (.tmp 25) (.tmp 26) rfl Tryd.underlying22 97 (by kernel_rfl) g off n c ((i + j) / 2) .i64 (by kernel_rfl) (by kernel_rfl) (by omega))) sS1 ?_
        have kk2 := Wk.Chg.step HC ch2 trivial
        refine Wk.dVal 4 (some 28) (.agg ((Mur.attC y.k y.r y.n y.t).toArray)) rfl rfl (by kernel_rfl) (by kernel_rfl) (by kernel_rfl) (fun _ _ _ h => h) (by kernel_rfl) (fun w' hw' => (Wk.loadR 32 (.tmp 27) rfl _ Tryd.underlying32 rfl g (off + ((i + j) / 2) * 97) (by kernel_rfl) (Mur.attC y.k y.r y.n y.t) (by rw [Mur.attC_length y.hk y.hr y.ht]; kernel_rfl) ((Mur.SlA.chg (Mur.SlA.chg hb kk2 (fun g off e hl => trivial)) hw' (fun g off e hl => trivial)).elem hy))) sS1 ?_
        refine Wk.dVal 5 (some 29) (.agg ((Mur.attC x.k x.r x.n x.t).toArray)) rfl rfl (by kernel_rfl) (by kernel_rfl) (by kernel_rfl) (fun _ _ _ h => h) (by kernel_rfl) (fun w' hw' => (Mur.loadArr 32 (.tmp 4) rfl _ Tryd.underlying32 rfl w.heap.size (by kernel_rfl) (Mur.attC x.k x.r x.n x.t).toArray 97 (Mur.attC_size x.hk x.hr x.ht) (by kernel_rfl) 32 (0, 0) (Wk.Chg.hp hw' (Wk.Chg.hp ch2 hbx trivial) trivial))) sS1 ?_
        refine Wk.dOp 6 (by kernel_rfl) ?_
        refine Wk.oCallV (some 30) (.tmp 24) 40 #[] [.tmp 28, .tmp 29] #[32, 32] [.agg ((Mur.attC y.k y.r y.n y.t).toArray), .agg ((Mur.attC x.k x.r x.n x.t).toArray)] rfl rfl (by kernel_rfl) rfl (by kernel_rfl) (by kernel_rfl) (by kernel_rfl) ?_
        refine (compare_any y x W3).mono ?_
        rintro _ W4 ⟨rfl, ch3⟩
        have zz3 := ch3.size
        have sS2 := Wk.Chg.step sS1 ch3 trivial
        refine ⟨_, rfl, sS2, ?_⟩
        refine Wk.dVal 7 (some 31) (.bool true) rfl rfl (by kernel_rfl) (by kernel_rfl) (by kernel_rfl) (fun _ _ _ h => h) (by kernel_rfl) (fun w' hw' => (Wk.boolT (b := decide ((Mur.cmpA y x) < (0 : Int))) (decide_eq_true ((Mur.cmpA_neg y x).2 hyx)) (by kernel_rfl))) sS2 ?_
        refine Wk.dEnd (by kernel_rfl) ?_
        refine Wk.nxt ?_
        refine wp_cond_true (by kernel_rfl) ?_
        refine Wk.reg ?_
        refine Wk.rPure 0 (some 32) (.int .i64 (((i + j) / 2 : Nat) : Int)) rfl rfl (by kernel_rfl) (by kernel_rfl) ?_
        refine Wk.rPure 1 (some 33) (.int .i64 (((i + j) / 2 + 1 : Nat) : Int)) rfl rfl (by kernel_rfl) (Wk.int64 (n := (((i + j) / 2 : Nat) : Int) + 1) (z := (((i + j) / 2 + 1 : Nat) : Int)) (by omega) (by omega) (by omega) (by kernel_rfl)) ?_
        refine Wk.rPure 2 (some 9) (.int .i64 (((i + j) / 2 + 1 : Nat) : Int)) rfl rfl (by kernel_rfl) (by kernel_rfl) ?_
        refine Wk.rEnd 3 rfl ?_
        refine Wk.inN ?_
        refine Wk.nxt ?_
        have kk3 := Wk.Chg.step kk2 ch3 trivial
        refine ⟨_, ?_, (i + j) / 2 + 1, j, rfl, by kernel_rfl, ⟨by omega, by omega, by omega⟩, (Wk.Chg.hp ch3 (Wk.Chg.hp ch2 hbx trivial) trivial), kk3⟩
        · omega
      · have hpo : ¬ ((i + j) / 2 < Mur.pos x L) := fun q => hyx ((Mur.pos_lt hs hy).2 q)
        refine wp_seq ?_
        refine wp_seq ?_
        refine Wk.reg ?_
        refine Wk.rPure 0 (some 15) (.int .i64 ((i : Nat) : Int)) rfl rfl (by kernel_rfl) (by kernel_rfl) ?_
        refine Wk.rPure 1 (some 16) (.int .i64 ((j : Nat) : Int)) rfl rfl (by kernel_rfl) (by kernel_rfl) ?_
        refine Wk.rPure 2 (some 17) (.bool true) rfl rfl (by kernel_rfl) (Wk.boolT (b := decide (((i : Nat) : Int) < ((j : Nat) : Int))) (decide_eq_true (by omega)) (by kernel_rfl)) ?_
        refine Wk.rEnd 3 rfl ?_
        refine Wk.nxt ?_
        refine wp_cond_true (by kernel_rfl) ?_
        refine wp_skip ?_
        refine Wk.nxt ?_
        refine wp_block ?_
        refine wp_seq ?_
        refine Wk.reg ?_
        refine Wk.rPure 0 (some 18) (.int .i64 ((i : Nat) : Int)) rfl rfl (by kernel_rfl) (by kernel_rfl) ?_
        refine Wk.rPure 1 (some 19) (.int .i64 ((j : Nat) : Int)) rfl rfl (by kernel_rfl) (by kernel_rfl) ?_
        refine Wk.rPure 2 (some 20) (.int .i64 ((i + j : Nat) : Int)) rfl rfl (by kernel_rfl) (Wk.int64 (n := ((i : Nat) : Int) + ((j : Nat) : Int)) (z := ((i + j : Nat) : Int)) (by omega) (by omega) (by omega) (by kernel_rfl)) ?_
        refine Wk.rPure 3 (some 21) (.int .u64 ((i + j : Nat) : Int)) rfl rfl (by kernel_rfl) (Mur.conv_int 3 109 (.tmp 20) rfl (by kernel_rfl) .u64 Tryd.underlying109 .i64 ((i + j : Nat) : Int) (by kernel_rfl) (Mur.u64_nat (by omega))) ?_
        refine Wk.rPure 4 (some 22) (.int .u64 (((i + j) / 2 : Nat) : Int)) rfl rfl (by kernel_rfl) (Mur.shr64 109 109 (.tmp 21) (.const (.int .u64 1)) rfl (i + j) 1 .u64 (by kernel_rfl) (by kernel_rfl) (by omega) 2 rfl) ?_
        refine Wk.rPure 5 (some 23) (.int .i64 (((i + j) / 2 : Nat) : Int)) rfl rfl (by kernel_rfl) (Mur.conv_int 109 3 (.tmp 22) rfl (by kernel_rfl) .i64 Tryd.underlying3 .u64 (((i + j) / 2 : Nat) : Int) (by kernel_rfl) (Mur.i64_nat (by omega))) ?_
        refine Wk.rPure 6 (some 11) (.int .i64 (((i + j) / 2 : Nat) : Int)) rfl rfl (by kernel_rfl) (by kernel_rfl) ?_
        refine Wk.rEnd 7 rfl ?_
        refine Wk.nxt ?_
        refine wp_seq ?_
        refine Wk.dReg ([]) (by kernel_rfl) ?_
        intro W5 ch4 sz3
        have zz4 := ch4.size
        have sS3 : Wk.Chg ([]) W5 W5 := (Wk.Chg.refl _).more (by simp)
        refine Wk.dVal 0 (some 24) (.func (.func 40) #[] #[]) rfl rfl (by kernel_rfl) (by kernel_rfl) (by kernel_rfl) (fun _ _ _ h => h) (by kernel_rfl) (fun w' hw' => by kernel_rfl) sS3 ?_
        refine Wk.dVal 1 (some 25) (.slice (some ⟨g, off, none⟩) n c) rfl rfl (by kernel_rfl) (by kernel_rfl) (by kernel_rfl) (fun _ _ _ h => h) (by kernel_rfl) (fun w' hw' => by kernel_rfl) sS3 ?_
        refine Wk.dVal 2 (some 26) (.int .i64 (((i + j) / 2 : Nat) : Int)) rfl rfl (by kernel_rfl) (by kernel_rfl) (by kernel_rfl) (fun _ _ _ h => h) (by kernel_rfl) (fun w' hw' => by kernel_rfl) sS3 ?_
        refine Wk.dVal 3 (some 27) (.pointer (some ⟨g, off + ((i + j) / 2) * 97, none⟩)) rfl rfl (by kernel_rfl) (by kernel_rfl) (by kernel_rfl) (fun _ _ _ h => h) (by kernel_rfl) (fun w' hw' => (Wk.index_sl 22 32 (.tmp 25) (.tmp 26) rfl Tryd.underlying22 97 (by kernel_rfl) g off n c ((i + j) / 2) .i64 (by kernel_rfl) (by kernel_rfl) (by omega))) sS3 ?_
        have kk4 := Wk.Chg.step HC ch4 trivial
        refine Wk.dVal 4 (some 28) (.agg ((Mur.attC y.k y.r y.n y.t).toArray)) rfl rfl (by kernel_rfl) (by kernel_rfl) (by kernel_rfl) (fun _ _ _ h => h) (by kernel_rfl) (fun w' hw' => (Wk.loadR 32 (.tmp 27) rfl _ Tryd.underlying32 rfl g (off + ((i + j) / 2) * 97) (by kernel_rfl) (Mur.attC y.k y.r y.n y.t) (by rw [Mur.attC_length y.hk y.hr y.ht]; kernel_rfl) ((Mur.SlA.chg (Mur.SlA.chg hb kk4 (fun g off e hl => trivial)) hw' (fun g off e hl => trivial)).elem hy))) sS3 ?_
        refine Wk.dVal 5 (some 29) (.agg ((Mur.attC x.k x.r x.n x.t).toArray)) rfl rfl (by kernel_rfl) (by kernel_rfl) (by kernel_rfl) (fun _ _ _ h => h) (by kernel_rfl) (fun w' hw' => (Mur.loadArr 32 (.tmp 4) rfl _ Tryd.underlying32 rfl w.heap.size (by kernel_rfl) (Mur.attC x.k x.r x.n x.t).toArray 97 (Mur.attC_size x.hk x.hr x.ht) (by kernel_rfl) 32 (0, 0) (Wk.Chg.hp hw' (Wk.Chg.hp ch4 hbx trivial) trivial))) sS3 ?_
        refine Wk.dOp 6 (by kernel_rfl) ?_
        refine Wk.oCallV (some 30) (.tmp 24) 40 #[] [.tmp 28, .tmp 29] #[32, 32] [.agg ((Mur.attC y.k y.r y.n y.t).toArray), .agg ((Mur.attC x.k x.r x.n x.t).toArray)] rfl rfl (by kernel_rfl) rfl (by kernel_rfl) (by kernel_rfl) (by kernel_rfl) ?_
        refine (compare_any y x W5).mono ?_
        rintro _ W6 ⟨rfl, ch5⟩
        have zz5 := ch5.size
        have sS4 := Wk.Chg.step sS3 ch5 trivial
        refine ⟨_, rfl, sS4, ?_⟩
        refine Wk.dVal 7 (some 31) (.bool false) rfl rfl (by kernel_rfl) (by kernel_rfl) (by kernel_rfl) (fun _ _ _ h => h) (by kernel_rfl) (fun w' hw' => (Wk.boolF (b := decide ((Mur.cmpA y x) < (0 : Int))) (decide_eq_false (fun q => hyx ((Mur.cmpA_neg y x).1 q))) (by kernel_rfl))) sS4 ?_
        refine Wk.dEnd (by kernel_rfl) ?_
        refine Wk.nxt ?_
        refine wp_cond_false (by kernel_rfl) ?_
        refine Wk.reg ?_
        refine Wk.rPure 0 (some 34) (.int .i64 (((i + j) / 2 : Nat) : Int)) rfl rfl (by kernel_rfl) (by kernel_rfl) ?_
        refine Wk.rPure 1 (some 10) (.int .i64 (((i + j) / 2 : Nat) : Int)) rfl rfl (by kernel_rfl) (by kernel_rfl) ?_
        refine Wk.rEnd 2 rfl ?_
        refine Wk.inN ?_
        refine Wk.nxt ?_
        have kk5 := Wk.Chg.step kk4 ch5 trivial
        refine ⟨_, ?_, i, (i + j) / 2, rfl, by kernel_rfl, ⟨by omega, by omega, by omega⟩, (Wk.Chg.hp ch5 (Wk.Chg.hp ch4 hbx trivial) trivial), kk5⟩
        · omega
    · have hip : Mur.pos x L = i := by omega
      by_cases hin : i < n
      · obtain ⟨g, off, rfl, _⟩ := hb.ex (by omega)
        obtain ⟨y, hy⟩ : ∃ y, L[i]? = some y := ⟨_, List.getElem?_eq_getElem (by have := hb.len; omega)⟩
        by_cases hyx : y = x
        · have hmem : (x ∈ L) := (Mur.pos_mem hs).2 (by rw [hip, hy, hyx])
          refine wp_seq ?_
          refine wp_seq ?_
          refine Wk.reg ?_
          refine Wk.rPure 0 (some 15) (.int .i64 ((i : Nat) : Int)) rfl rfl (by kernel_rfl) (by kernel_rfl) ?_
          refine Wk.rPure 1 (some 16) (.int .i64 ((j : Nat) : Int)) rfl rfl (by kernel_rfl) (by kernel_rfl) ?_
          refine Wk.rPure 2 (some 17) (.bool false) rfl rfl (by kernel_rfl) (Wk.boolF (b := decide (((i : Nat) : Int) < ((j : Nat) : Int))) (decide_eq_false (by omega)) (by kernel_rfl)) ?_
          refine Wk.rEnd 3 rfl ?_
          refine Wk.nxt ?_
          refine wp_cond_false (by kernel_rfl) ?_
          refine wp_exit ?_
          refine Wk.thX ?_
          refine Wk.thX ?_
          refine Wk.inX ?_
          refine Wk.nxt ?_
          refine wp_seq ?_
          refine Wk.dReg ([]) (by kernel_rfl) ?_
          intro W7 ch6 sz4
          have zz6 := ch6.size
          have sS5 : Wk.Chg ([]) W7 W7 := (Wk.Chg.refl _).more (by simp)
          refine Wk.dVal 0 (some 35) (.int .i64 ((i : Nat) : Int)) rfl rfl (by kernel_rfl) (by kernel_rfl) (by kernel_rfl) (fun _ _ _ h => h) (by kernel_rfl) (fun w' hw' => by kernel_rfl) sS5 ?_
          refine Wk.dVal 1 (some 36) (.int .i64 ((i : Nat) : Int)) rfl rfl (by kernel_rfl) (by kernel_rfl) (by kernel_rfl) (fun _ _ _ h => h) (by kernel_rfl) (fun w' hw' => by kernel_rfl) sS5 ?_
          refine Wk.dVal 2 (some 37) (.int .i64 ((n : Nat) : Int)) rfl rfl (by kernel_rfl) (by kernel_rfl) (by kernel_rfl) (fun _ _ _ h => h) (by kernel_rfl) (fun w' hw' => by kernel_rfl) sS5 ?_
          refine Wk.dVal 3 (some 38) (.bool true) rfl rfl (by kernel_rfl) (by kernel_rfl) (by kernel_rfl) (fun _ _ _ h => h) (by kernel_rfl) (fun w' hw' => (Wk.boolT (b := decide (((i : Nat) : Int) < ((n : Nat) : Int))) (decide_eq_true (by omega)) (by kernel_rfl))) sS5 ?_
          refine Wk.dVal 4 (some 39) (.bool true) rfl rfl (by kernel_rfl) (by kernel_rfl) (by kernel_rfl) (fun _ _ _ h => h) (by kernel_rfl) (fun w' hw' => by kernel_rfl) sS5 ?_
          refine Wk.dVal 5 (some 40) (.func (.func 40) #[] #[]) rfl rfl (by kernel_rfl) (by kernel_rfl) (by kernel_rfl) (fun _ _ _ h => h) (by kernel_rfl) (fun w' hw' => by kernel_rfl) sS5 ?_
          refine Wk.dVal 6 (some 41) (.slice (some ⟨g, off, none⟩) n c) rfl rfl (by kernel_rfl) (by kernel_rfl) (by kernel_rfl) (fun _ _ _ h => h) (by kernel_rfl) (fun w' hw' => by kernel_rfl) sS5 ?_
          refine Wk.dVal 7 (some 42) (.int .i64 ((i : Nat) : Int)) rfl rfl (by kernel_rfl) (by kernel_rfl) (by kernel_rfl) (fun _ _ _ h => h) (by kernel_rfl) (fun w' hw' => by kernel_rfl) sS5 ?_
          refine Wk.dVal 8 (some 43) (.pointer (some ⟨g, off + i * 97, none⟩)) rfl rfl (by kernel_rfl) (by kernel_rfl) (by kernel_rfl) (fun _ _ _ h => h) (by kernel_rfl) (fun w' hw' => (Wk.index_sl 22 32 (.tmp 41) (.tmp 42) rfl Tryd.underlying22 97 (by kernel_rfl) g off n c i .i64 (by kernel_rfl) (by kernel_rfl) (by omega))) sS5 ?_
          have kk6 := Wk.Chg.step HC ch6 trivial
          refine Wk.dVal 9 (some 44) (.agg ((Mur.attC y.k y.r y.n y.t).toArray)) rfl rfl (by kernel_rfl) (by kernel_rfl) (by kernel_rfl) (fun _ _ _ h => h) (by kernel_rfl) (fun w' hw' => (Wk.loadR 32 (.tmp 43) rfl _ Tryd.underlying32 rfl g (off + i * 97) (by kernel_rfl) (Mur.attC y.k y.r y.n y.t) (by rw [Mur.attC_length y.hk y.hr y.ht]; kernel_rfl) ((Mur.SlA.chg (Mur.SlA.chg hb kk6 (fun g off e hl => trivial)) hw' (fun g off e hl => trivial)).elem hy))) sS5 ?_
          refine Wk.dVal 10 (some 45) (.agg ((Mur.attC x.k x.r x.n x.t).toArray)) rfl rfl (by kernel_rfl) (by kernel_rfl) (by kernel_rfl) (fun _ _ _ h => h) (by kernel_rfl) (fun w' hw' => (Mur.loadArr 32 (.tmp 4) rfl _ Tryd.underlying32 rfl w.heap.size (by kernel_rfl) (Mur.attC x.k x.r x.n x.t).toArray 97 (Mur.attC_size x.hk x.hr x.ht) (by kernel_rfl) 32 (0, 0) (Wk.Chg.hp hw' (Wk.Chg.hp ch6 hbx trivial) trivial))) sS5 ?_
          refine Wk.dOp 11 (by kernel_rfl) ?_
          refine Wk.oCallV (some 46) (.tmp 40) 40 #[] [.tmp 44, .tmp 45] #[32, 32] [.agg ((Mur.attC y.k y.r y.n y.t).toArray), .agg ((Mur.attC x.k x.r x.n x.t).toArray)] rfl rfl (by kernel_rfl) rfl (by kernel_rfl) (by kernel_rfl) (by kernel_rfl) ?_
          refine (compare_any y x W7).mono ?_
          rintro _ W8 ⟨rfl, ch7⟩
          have zz7 := ch7.size
          have sS6 := Wk.Chg.step sS5 ch7 trivial
          refine ⟨_, rfl, sS6, ?_⟩
          refine Wk.dVal 12 (some 47) (.bool true) rfl rfl (by kernel_rfl) (by kernel_rfl) (by kernel_rfl) (fun _ _ _ h => h) (by kernel_rfl) (fun w' hw' => (Wk.boolT (b := ((Mur.cmpA y x) == (0 : Int))) (beq_iff_eq.2 ((Mur.cmpA_zero y x).2 hyx)) (by kernel_rfl))) sS6 ?_
          refine Wk.dVal 13 (some 48) (.bool true) rfl rfl (by kernel_rfl) (by kernel_rfl) (by kernel_rfl) (fun _ _ _ h => h) (by kernel_rfl) (fun w' hw' => by kernel_rfl) sS6 ?_
          refine Wk.dVal 14 (some 6) (.int .i64 ((i : Nat) : Int)) rfl rfl (by kernel_rfl) (by kernel_rfl) (by kernel_rfl) (fun _ _ _ h => h) (by kernel_rfl) (fun w' hw' => by kernel_rfl) sS6 ?_
          refine Wk.dVal 15 (some 7) (.bool true) rfl rfl (by kernel_rfl) (by kernel_rfl) (by kernel_rfl) (fun _ _ _ h => h) (by kernel_rfl) (fun w' hw' => by kernel_rfl) sS6 ?_
          refine Wk.dEnd (by kernel_rfl) ?_
          refine Wk.nxt ?_
          refine wp_ret ?_
          have kk7 := Wk.Chg.step kk6 ch7 trivial
          refine Wk.ret (.tuple #[.int .i64 ((i : Nat) : Int), .bool true]) rfl (by kernel_rfl) ?_
          exact ⟨by rw [hip, decide_eq_true hmem], kk7⟩
        · have hmem : ¬ (x ∈ L) := fun q => hyx (by have h1 := (Mur.pos_mem hs).1 q; rw [hip, hy] at h1; exact Option.some.inj h1)
          refine wp_seq ?_
          refine wp_seq ?_
          refine Wk.reg ?_
          refine Wk.rPure 0 (some 15) (.int .i64 ((i : Nat) : Int)) rfl rfl (by kernel_rfl) (by kernel_rfl) ?_
          refine Wk.rPure 1 (some 16) (.int .i64 ((j : Nat) : Int)) rfl rfl (by kernel_rfl) (by kernel_rfl) ?_
          refine Wk.rPure 2 (some 17) (.bool false) rfl rfl (by kernel_rfl) (Wk.boolF (b := decide (((i : Nat) : Int) < ((j : Nat) : Int))) (decide_eq_false (by omega)) (by kernel_rfl)) ?_
          refine Wk.rEnd 3 rfl ?_
          refine Wk.nxt ?_
          refine wp_cond_false (by kernel_rfl) ?_
          refine wp_exit ?_
          refine Wk.thX ?_
          refine Wk.thX ?_
          refine Wk.inX ?_
          refine Wk.nxt ?_
          refine wp_seq ?_
          refine Wk.dReg ([]) (by kernel_rfl) ?_
          intro W10 ch8 sz5
          have zz8 := ch8.size
          have sS7 : Wk.Chg ([]) W10 W10 := (Wk.Chg.refl _).more (by simp)
          refine Wk.dVal 0 (some 35) (.int .i64 ((i : Nat) : Int)) rfl rfl (by kernel_rfl) (by kernel_rfl) (by kernel_rfl) (fun _ _ _ h => h) (by kernel_rfl) (fun w' hw' => by kernel_rfl) sS7 ?_
          refine Wk.dVal 1 (some 36) (.int .i64 ((i : Nat) : Int)) rfl rfl (by kernel_rfl) (by kernel_rfl) (by kernel_rfl) (fun _ _ _ h => h) (by kernel_rfl) (fun w' hw' => by kernel_rfl) sS7 ?_
          refine Wk.dVal 2 (some 37) (.int .i64 ((n : Nat) : Int)) rfl rfl (by kernel_rfl) (by kernel_rfl) (by kernel_rfl) (fun _ _ _ h => h) (by kernel_rfl) (fun w' hw' => by kernel_rfl) sS7 ?_
          refine Wk.dVal 3 (some 38) (.bool true) rfl rfl (by kernel_rfl) (by kernel_rfl) (by kernel_rfl) (fun _ _ _ h => h) (by kernel_rfl) (fun w' hw' => (Wk.boolT (b := decide (((i : Nat) : Int) < ((n : Nat) : Int))) (decide_eq_true (by omega)) (by kernel_rfl))) sS7 ?_
          refine Wk.dVal 4 (some 39) (.bool true) rfl rfl (by kernel_rfl) (by kernel_rfl) (by kernel_rfl) (fun _ _ _ h => h) (by kernel_rfl) (fun w' hw' => by kernel_rfl) sS7 ?_
          refine Wk.dVal 5 (some 40) (.func (.func 40) #[] #[]) rfl rfl (by kernel_rfl) (by kernel_rfl) (by kernel_rfl) (fun _ _ _ h => h) (by kernel_rfl) (fun w' hw' => by kernel_rfl) sS7 ?_
          refine Wk.dVal 6 (some 41) (.slice (some ⟨g, off, none⟩) n c) rfl rfl (by kernel_rfl) (by kernel_rfl) (by kernel_rfl) (fun _ _ _ h => h) (by kernel_rfl) (fun w' hw' => by kernel_rfl) sS7 ?_
          refine Wk.dVal 7 (some 42) (.int .i64 ((i : Nat) : Int)) rfl rfl (by kernel_rfl) (by kernel_rfl) (by kernel_rfl) (fun _ _ _ h => h) (by kernel_rfl) (fun w' hw' => by kernel_rfl) sS7 ?_
          refine Wk.dVal 8 (some 43) (.pointer (some ⟨g, off + i * 97, none⟩)) rfl rfl (by kernel_rfl) (by kernel_rfl) (by kernel_rfl) (fun _ _ _ h => h) (by kernel_rfl) (fun w' hw' => (Wk.index_sl 22 32 (.tmp 41) (.tmp 42) rfl Tryd.underlying22 97 (by kernel_rfl) g off n c i .i64 (by kernel_rfl) (by kernel_rfl) (by omega))) sS7 ?_
          have kk8 := Wk.Chg.step HC ch8 trivial
          refine Wk.dVal 9 (some 44) (.agg ((Mur.attC y.k y.r y.n y.t).toArray)) rfl rfl (by kernel_rfl) (by kernel_rfl) (by kernel_rfl) (fun _ _ _ h => h) (by kernel_rfl) (fun w' hw' => (Wk.loadR 32 (.tmp 43) rfl _ Tryd.underlying32 rfl g (off + i * 97) (by kernel_rfl) (Mur.attC y.k y.r y.n y.t) (by rw [Mur.attC_length y.hk y.hr y.ht]; kernel_rfl) ((Mur.SlA.chg (Mur.SlA.chg hb kk8 (fun g off e hl => trivial)) hw' (fun g off e hl => trivial)).elem hy))) sS7 ?_
          refine Wk.dVal 10 (some 45) (.agg ((Mur.attC x.k x.r x.n x.t).toArray)) rfl rfl (by kernel_rfl) (by kernel_rfl) (by kernel_rfl) (fun _ _ _ h => h) (by kernel_rfl) (fun w' hw' => (Mur.loadArr 32 (.tmp 4) rfl _ Tryd.underlying32 rfl w.heap.size (by kernel_rfl) (Mur.attC x.k x.r x.n x.t).toArray 97 (Mur.attC_size x.hk x.hr x.ht) (by kernel_rfl) 32 (0, 0) (Wk.Chg.hp hw' (Wk.Chg.hp ch8 hbx trivial) trivial))) sS7 ?_
          refine Wk.dOp 11 (by kernel_rfl) ?_
          refine Wk.oCallV (some 46) (.tmp 40) 40 #[] [.tmp 44, .tmp 45] #[32, 32] [.agg ((Mur.attC y.k y.r y.n y.t).toArray), .agg ((Mur.attC x.k x.r x.n x.t).toArray)] rfl rfl (by kernel_rfl) rfl (by kernel_rfl) (by kernel_rfl) (by kernel_rfl) ?_
          refine (compare_any y x W10).mono ?_
          rintro _ W11 ⟨rfl, ch9⟩
          have zz9 := ch9.size
          have sS8 := Wk.Chg.step sS7 ch9 trivial
          refine ⟨_, rfl, sS8, ?_⟩
          refine Wk.dVal 12 (some 47) (.bool false) rfl rfl (by kernel_rfl) (by kernel_rfl) (by kernel_rfl) (fun _ _ _ h => h) (by kernel_rfl) (fun w' hw' => (Wk.boolF (b := ((Mur.cmpA y x) == (0 : Int))) (beq_eq_false_iff_ne.2 (fun q => hyx ((Mur.cmpA_zero y x).1 q))) (by kernel_rfl))) sS8 ?_
          refine Wk.dVal 13 (some 48) (.bool false) rfl rfl (by kernel_rfl) (by kernel_rfl) (by kernel_rfl) (fun _ _ _ h => h) (by kernel_rfl) (fun w' hw' => by kernel_rfl) sS8 ?_
          refine Wk.dVal 14 (some 6) (.int .i64 ((i : Nat) : Int)) rfl rfl (by kernel_rfl) (by kernel_rfl) (by kernel_rfl) (fun _ _ _ h => h) (by kernel_rfl) (fun w' hw' => by kernel_rfl) sS8 ?_
          refine Wk.dVal 15 (some 7) (.bool false) rfl rfl (by kernel_rfl) (by kernel_rfl) (by kernel_rfl) (fun _ _ _ h => h) (by kernel_rfl) (fun w' hw' => by kernel_rfl) sS8 ?_
          refine Wk.dEnd (by kernel_rfl) ?_
          refine Wk.nxt ?_
          refine wp_ret ?_
          have kk9 := Wk.Chg.step kk8 ch9 trivial
          refine Wk.ret (.tuple #[.int .i64 ((i : Nat) : Int), .bool false]) rfl (by kernel_rfl) ?_
          exact ⟨by rw [hip, decide_eq_false hmem], kk9⟩
      · have hmem : ¬ (x ∈ L) := fun q => by have h1 := (Mur.pos_mem hs).1 q; rw [hip, List.getElem?_eq_none (by have := hb.len; omega)] at h1; cases h1
        refine wp_seq ?_
        refine wp_seq ?_
        refine Wk.reg ?_
        refine Wk.rPure 0 (some 15) (.int .i64 ((i : Nat) : Int)) rfl rfl (by kernel_rfl) (by kernel_rfl) ?_
        refine Wk.rPure 1 (some 16) (.int .i64 ((j : Nat) : Int)) rfl rfl (by kernel_rfl) (by kernel_rfl) ?_
        refine Wk.rPure 2 (some 17) (.bool false) rfl rfl (by kernel_rfl) (Wk.boolF (b := decide (((i : Nat) : Int) < ((j : Nat) : Int))) (decide_eq_false (by omega)) (by kernel_rfl)) ?_
        refine Wk.rEnd 3 rfl ?_
        refine Wk.nxt ?_
        refine wp_cond_false (by kernel_rfl) ?_
        refine wp_exit ?_
        refine Wk.thX ?_
        refine Wk.thX ?_
        refine Wk.inX ?_
        refine Wk.nxt ?_
        refine wp_seq ?_
        refine Wk.dReg ([]) (by kernel_rfl) ?_
        intro W12 ch10 sz6
        have zz10 := ch10.size
        have sS9 : Wk.Chg ([]) W12 W12 := (Wk.Chg.refl _).more (by simp)
        refine Wk.dVal 0 (some 35) (.int .i64 ((i : Nat) : Int)) rfl rfl (by kernel_rfl) (by kernel_rfl) (by kernel_rfl) (fun _ _ _ h => h) (by kernel_rfl) (fun w' hw' => by kernel_rfl) sS9 ?_
        refine Wk.dVal 1 (some 36) (.int .i64 ((i : Nat) : Int)) rfl rfl (by kernel_rfl) (by kernel_rfl) (by kernel_rfl) (fun _ _ _ h => h) (by kernel_rfl) (fun w' hw' => by kernel_rfl) sS9 ?_
        refine Wk.dVal 2 (some 37) (.int .i64 ((n : Nat) : Int)) rfl rfl (by kernel_rfl) (by kernel_rfl) (by kernel_rfl) (fun _ _ _ h => h) (by kernel_rfl) (fun w' hw' => by kernel_rfl) sS9 ?_
        refine Wk.dVal 3 (some 38) (.bool false) rfl rfl (by kernel_rfl) (by kernel_rfl) (by kernel_rfl) (fun _ _ _ h => h) (by kernel_rfl) (fun w' hw' => (Wk.boolF (b := decide (((i : Nat) : Int) < ((n : Nat) : Int))) (decide_eq_false (by omega)) (by kernel_rfl))) sS9 ?_
        refine Wk.dVal 4 (some 39) (.bool false) rfl rfl (by kernel_rfl) (by kernel_rfl) (by kernel_rfl) (fun _ _ _ h => h) (by kernel_rfl) (fun w' hw' => by kernel_rfl) sS9 ?_
        refine Wk.dPass 5 (some 40) rfl rfl (by kernel_rfl) (by kernel_rfl) (by kernel_rfl) (fun _ _ _ h => h) (by kernel_rfl) sS9 ?_
        refine Wk.dPass 6 (some 41) rfl rfl (by kernel_rfl) (by kernel_rfl) (by kernel_rfl) (fun _ _ _ h => h) (by kernel_rfl) sS9 ?_
        refine Wk.dPass 7 (some 42) rfl rfl (by kernel_rfl) (by kernel_rfl) (by kernel_rfl) (fun _ _ _ h => h) (by kernel_rfl) sS9 ?_
        refine Wk.dPass 8 (some 43) rfl rfl (by kernel_rfl) (by kernel_rfl) (by kernel_rfl) (fun _ _ _ h => h) (by kernel_rfl) sS9 ?_
        refine Wk.dPass 9 (some 44) rfl rfl (by kernel_rfl) (by kernel_rfl) (by kernel_rfl) (fun _ _ _ h => h) (by kernel_rfl) sS9 ?_
        refine Wk.dPass 10 (some 45) rfl rfl (by kernel_rfl) (by kernel_rfl) (by kernel_rfl) (fun _ _ _ h => h) (by kernel_rfl) sS9 ?_
        refine Wk.dPass 11 (some 46) rfl rfl (by kernel_rfl) (by kernel_rfl) (by kernel_rfl) (fun _ _ _ h => h) (by kernel_rfl) sS9 ?_
        refine Wk.dPass 12 (some 47) rfl rfl (by kernel_rfl) (by kernel_rfl) (by kernel_rfl) (fun _ _ _ h => h) (by kernel_rfl) sS9 ?_
        refine Wk.dVal 13 (some 48) (.bool false) rfl rfl (by kernel_rfl) (by kernel_rfl) (by kernel_rfl) (fun _ _ _ h => h) (by kernel_rfl) (fun w' hw' => by kernel_rfl) sS9 ?_
        refine Wk.dVal 14 (some 6) (.int .i64 ((i : Nat) : Int)) rfl rfl (by kernel_rfl) (by kernel_rfl) (by kernel_rfl) (fun _ _ _ h => h) (by kernel_rfl) (fun w' hw' => by kernel_rfl) sS9 ?_
        refine Wk.dVal 15 (some 7) (.bool false) rfl rfl (by kernel_rfl) (by kernel_rfl) (by kernel_rfl) (fun _ _ _ h => h) (by kernel_rfl) (fun w' hw' => by kernel_rfl) sS9 ?_
        refine Wk.dEnd (by kernel_rfl) ?_
        refine Wk.nxt ?_
        refine wp_ret ?_
        have kk10 := Wk.Chg.step HC ch10 trivial
        refine Wk.ret (.tuple #[.int .i64 ((i : Nat) : Int), .bool false]) rfl (by kernel_rfl) ?_
        exact ⟨by rw [hip, decide_eq_false hmem], kk10⟩
end Go.Proofs.YtfhneademopciaaDoor
namespace Go.Proofs.YtfhneademopciaaDoor
open Go.RowKit
open Mur (b8s Byt Own8 Seg Segs flat cutA attC Att SlA OwnA rowA)
set_option maxRecDepth 100000
set_option maxHeartbeats 4000000
theorem Insert_app (L : List Att) (base : Nat) (A : Option Addr) (n c : Nat) (x : Att) (q : Nat) (w : World) (h : OwnA w base 32 A n c L) (hn : n ≤ 100000) (hbase : base ≤ w.heap.size) (hq : w.heap[q]? = some (.cells (attC x.k x.r x.n x.t).toArray 32 (0, 0))) (_hqA : ∀ g, (Value.slice A n c).ownBlock = some g → g ≠ q) : Calls Tryd.prog 41 #[.slice A n c, .int .i64 ((n : Nat) : Int), .slice (some ⟨q, 0, none⟩) 1 1] w fun e w' => ∃ A1 c1, e = .returned (.slice A1 (n + 1) c1) ∧ OwnA w' base 32 A1 (n + 1) c1 (L.take n ++ x :: L.drop n) ∧ Wk.Chg (Wk.blk (.slice A n c)) w w' ∧ (∀ q', (Value.slice A1 (n + 1) c1).ownBlock = some q' → (Value.slice A n c).ownBlock = some q' ∨ w.heap.size ≤ q') := by
  have hl := h.sl.len
  have hcn := h.nc
  have hcmx := h.cm
  have hql := (Array.getElem?_eq_some_iff.1 hq).1
  refine calls_of_wp Tryd.func41 rfl ?_
  refine wp_seq ?_
  refine Wk.reg ?_
  refine Wk.rPure 0 (some 6) (.slice none 0 0) rfl rfl (by kernel_rfl) (by kernel_rfl) ?_
  refine Wk.rEnd 1 rfl ?_
  refine Wk.nxt ?_
  refine wp_seq ?_
  refine Wk.reg ?_
  refine Wk.rPure 0 (some 10) (.slice A n c) rfl rfl (by kernel_rfl) (by kernel_rfl) ?_
  refine Wk.rPure 1 (some 11) (.int .i64 ((n : Nat) : Int)) rfl rfl (by kernel_rfl) (by kernel_rfl) ?_
  refine Wk.rPure 2 (some 12) (.slice (if c = n then A else (A : Option Addr).map (·.add (n * 97))) (n - n) (c - n)) rfl rfl (by kernel_rfl) (Mur.run_fromK 22 (.tmp 10) (.tmp 11) rfl 32 Tryd.underlying22 97 (by kernel_rfl) A n c n (by kernel_rfl) (by kernel_rfl) (by omega) _ rfl) ?_
  refine Wk.rEnd 3 rfl ?_
  refine Wk.nxt ?_
  refine wp_seq ?_
  refine Wk.reg ?_
  refine Wk.rPure 0 (some 13) (.slice (some ⟨q, 0, none⟩) 1 1) rfl rfl (by kernel_rfl) (by kernel_rfl) ?_
  refine Wk.rPure 1 (some 14) (.int .i64 1) rfl rfl (by kernel_rfl) (by kernel_rfl) ?_
  refine Wk.rPure 2 (some 7) (.int .i64 1) rfl rfl (by kernel_rfl) (by kernel_rfl) ?_
  refine Wk.rEnd 3 rfl ?_
  refine Wk.nxt ?_
  refine wp_seq ?_
  refine wp_seq ?_
  refine Wk.reg ?_
  refine Wk.rPure 0 (some 15) (.int .i64 1) rfl rfl (by kernel_rfl) (by kernel_rfl) ?_
  refine Wk.rPure 1 (some 16) (.bool false) rfl rfl (by kernel_rfl) (Wk.boolF (b := ((1 : Int) == (0 : Int))) (beq_eq_false_iff_ne.2 (by decide)) (by kernel_rfl)) ?_
  refine Wk.rEnd 2 rfl ?_
  refine Wk.nxt ?_
  refine wp_cond_false (by kernel_rfl) ?_
  refine wp_skip ?_
  refine Wk.nxt ?_
  refine wp_seq ?_
  refine Wk.reg ?_
  refine Wk.rPure 0 (some 18) (.slice A n c) rfl rfl (by kernel_rfl) (by kernel_rfl) ?_
  refine Wk.rPure 1 (some 19) (.int .i64 ((n : Nat) : Int)) rfl rfl (by kernel_rfl) (by kernel_rfl) ?_
  refine Wk.rPure 2 (some 8) (.int .i64 ((n : Nat) : Int)) rfl rfl (by kernel_rfl) (by kernel_rfl) ?_
  refine Wk.rEnd 3 rfl ?_
  refine Wk.nxt ?_
  refine wp_seq ?_
  refine wp_seq ?_
  refine Wk.reg ?_
  refine Wk.rPure 0 (some 20) (.int .i64 ((n : Nat) : Int)) rfl rfl (by kernel_rfl) (by kernel_rfl) ?_
  refine Wk.rPure 1 (some 21) (.int .i64 ((n : Nat) : Int)) rfl rfl (by kernel_rfl) (by kernel_rfl) ?_
  refine Wk.rPure 2 (some 22) (.bool true) rfl rfl (by kernel_rfl) (Wk.boolT (b := (((n : Nat) : Int) == ((n : Nat) : Int))) (beq_iff_eq.2 (rfl)) (by kernel_rfl)) ?_
  refine Wk.rEnd 3 rfl ?_
  refine Wk.nxt ?_
  refine wp_cond_true (by kernel_rfl) ?_
  refine wp_seq ?_
  refine Wk.reg ?_
  refine Wk.rPure 0 (some 23) (.slice A n c) rfl rfl (by kernel_rfl) (by kernel_rfl) ?_
  refine Wk.rPure 1 (some 24) (.slice (some ⟨q, 0, none⟩) 1 1) rfl rfl (by kernel_rfl) (by kernel_rfl) ?_
  refine Wk.rEx 2 (some 25) _ rfl rfl (by kernel_rfl) (Mur.appendA (.tmp 23) (.tmp 24) 22 32 rfl Tryd.underlying22 attI base A n c L (some ⟨q, 0, none⟩) 1 1 ([x]) (by kernel_rfl) (by kernel_rfl) h (Mur.slA_box x hq) (fun h => by cases h) (by omega) (by omega) (n + 1) (by omega) (L ++ ([x])) rfl) ?_
  rintro _ W1 ⟨AA1, nn1, rfl, ow1, ch1, ha1⟩
  have zz1 := ch1.size
  have hq1 := ow1.nc
  have hq2 := ow1.cm
  refine Wk.rPure 3 (some 6) (.slice AA1 (n + 1) nn1) rfl rfl (by kernel_rfl) (by kernel_rfl) ?_
  refine Wk.rEnd 4 rfl ?_
  refine Wk.nxt ?_
  refine wp_ret ?_
  refine Wk.thR ?_
  have kk1 : Wk.Chg (Wk.blk (.slice A n c)) (w) W1 := Wk.Chg.step ((Wk.Chg.refl _).more (by simp)) ch1 (Mur.newOr_iff.2 (fun t ht => .inl ht))
  refine Wk.ret (.slice AA1 (n + 1) nn1) rfl (by kernel_rfl) ?_
  exact ⟨_, _, rfl, by have h_ := ow1; rw [← List.take_append_drop n L, List.drop_of_length_le (Nat.le_of_eq hl)] at h_; simpa [List.take_of_length_le (Nat.le_of_eq hl), List.drop_of_length_le (Nat.le_of_eq hl)] using h_, kk1, fun q' h1 => (ha1 q' h1).imp (fun h => h) (fun h => by omega)⟩
theorem Insert_in (L : List Att) (base : Nat) (A : Option Addr) (n c i : Nat) (x : Att) (q : Nat) (w : World) (h : OwnA w base 32 A n c L) (hn : n ≤ 100000) (_hbase : base ≤ w.heap.size) (hq : w.heap[q]? = some (.cells (attC x.k x.r x.n x.t).toArray 32 (0, 0))) (hqA : ∀ g, (Value.slice A n c).ownBlock = some g → g ≠ q) (hi : i < n) (hc : n + 1 ≤ c) : Calls Tryd.prog 41 #[.slice A n c, .int .i64 ((i : Nat) : Int), .slice (some ⟨q, 0, none⟩) 1 1] w fun e w' => ∃ A1 c1, e = .returned (.slice A1 (n + 1) c1) ∧ OwnA w' base 32 A1 (n + 1) c1 (L.take i ++ x :: L.drop i) ∧ Wk.Chg (Wk.blk (.slice A n c)) w w' ∧ (∀ q', (Value.slice A1 (n + 1) c1).ownBlock = some q' → (Value.slice A n c).ownBlock = some q' ∨ w.heap.size ≤ q') := by
  have hl := h.sl.len
  have hcn := h.nc
  have hcmx := h.cm
  have hql := (Array.getElem?_eq_some_iff.1 hq).1
  obtain ⟨g, cur, rfl, hbg, hg, hcs, htk⟩ := h.cur.resolve_left (fun q => by omega)
  have hqg : q ≠ g := fun e => hqA g rfl e.symm
  have htq : cur.toList.take (i * 97) = Mur.rowA (L.take i) := by rw [Mur.rowA_take, ← htk, List.take_take, Nat.min_eq_left (by omega)]
  have hgl := (Array.getElem?_eq_some_iff.1 hg).1
  have htp := htq
  refine calls_of_wp Tryd.func41 rfl ?_
  refine wp_seq ?_
  refine Wk.reg ?_
  refine Wk.rPure 0 (some 6) (.slice none 0 0) rfl rfl (by kernel_rfl) (by kernel_rfl) ?_
  refine Wk.rEnd 1 rfl ?_
  refine Wk.nxt ?_
  refine wp_seq ?_
  refine Wk.reg ?_
  refine Wk.rPure 0 (some 10) (.slice (some ⟨g, 0, none⟩) n c) rfl rfl (by kernel_rfl) (by kernel_rfl) ?_
  refine Wk.rPure 1 (some 11) (.int .i64 ((i : Nat) : Int)) rfl rfl (by kernel_rfl) (by kernel_rfl) ?_
  refine Wk.rPure 2 (some 12) (.slice (if c = i then some ⟨g, 0, none⟩ else (some ⟨g, 0, none⟩ : Option Addr).map (·.add (i * 97))) (n - i) (c - i)) rfl rfl (by kernel_rfl) (Mur.run_fromK 22 (.tmp 10) (.tmp 11) rfl 32 Tryd.underlying22 97 (by kernel_rfl) (some ⟨g, 0, none⟩) n c i (by kernel_rfl) (by kernel_rfl) (by omega) _ rfl) ?_
  refine Wk.rEnd 3 rfl ?_
  refine Wk.nxt ?_
  refine wp_seq ?_
  refine Wk.reg ?_
  refine Wk.rPure 0 (some 13) (.slice (some ⟨q, 0, none⟩) 1 1) rfl rfl (by kernel_rfl) (by kernel_rfl) ?_
  refine Wk.rPure 1 (some 14) (.int .i64 1) rfl rfl (by kernel_rfl) (by kernel_rfl) ?_
  refine Wk.rPure 2 (some 7) (.int .i64 1) rfl rfl (by kernel_rfl) (by kernel_rfl) ?_
  refine Wk.rEnd 3 rfl ?_
  refine Wk.nxt ?_
  refine wp_seq ?_
  refine wp_seq ?_
  refine Wk.reg ?_
  refine Wk.rPure 0 (some 15) (.int .i64 1) rfl rfl (by kernel_rfl) (by kernel_rfl) ?_
  refine Wk.rPure 1 (some 16) (.bool false) rfl rfl (by kernel_rfl) (Wk.boolF (b := ((1 : Int) == (0 : Int))) (beq_eq_false_iff_ne.2 (by decide)) (by kernel_rfl)) ?_
  refine Wk.rEnd 2 rfl ?_
  refine Wk.nxt ?_
  refine wp_cond_false (by kernel_rfl) ?_
  refine wp_skip ?_
  refine Wk.nxt ?_
  refine wp_seq ?_
  refine Wk.reg ?_
  refine Wk.rPure 0 (some 18) (.slice (some ⟨g, 0, none⟩) n c) rfl rfl (by kernel_rfl) (by kernel_rfl) ?_
  refine Wk.rPure 1 (some 19) (.int .i64 ((n : Nat) : Int)) rfl rfl (by kernel_rfl) (by kernel_rfl) ?_
  refine Wk.rPure 2 (some 8) (.int .i64 ((n : Nat) : Int)) rfl rfl (by kernel_rfl) (by kernel_rfl) ?_
  refine Wk.rEnd 3 rfl ?_
  refine Wk.nxt ?_
  refine wp_seq ?_
  refine wp_seq ?_
  refine Wk.reg ?_
  refine Wk.rPure 0 (some 20) (.int .i64 ((i : Nat) : Int)) rfl rfl (by kernel_rfl) (by kernel_rfl) ?_
  refine Wk.rPure 1 (some 21) (.int .i64 ((n : Nat) : Int)) rfl rfl (by kernel_rfl) (by kernel_rfl) ?_
  refine Wk.rPure 2 (some 22) (.bool false) rfl rfl (by kernel_rfl) (Wk.boolF (b := (((i : Nat) : Int) == ((n : Nat) : Int))) (beq_eq_false_iff_ne.2 (by omega)) (by kernel_rfl)) ?_
  refine Wk.rEnd 3 rfl ?_
  refine Wk.nxt ?_
  refine wp_cond_false (by kernel_rfl) ?_
  refine wp_skip ?_
  refine Wk.nxt ?_
  refine wp_seq ?_
  refine wp_seq ?_
  refine Wk.reg ?_
  refine Wk.rPure 0 (some 26) (.int .i64 ((n : Nat) : Int)) rfl rfl (by kernel_rfl) (by kernel_rfl) ?_
  refine Wk.rPure 1 (some 27) (.int .i64 1) rfl rfl (by kernel_rfl) (by kernel_rfl) ?_
  refine Wk.rPure 2 (some 28) (.int .i64 ((n + 1 : Nat) : Int)) rfl rfl (by kernel_rfl) (Wk.int64 (n := ((n : Nat) : Int) + 1) (z := ((n + 1 : Nat) : Int)) (by omega) (by omega) (by omega) (by kernel_rfl)) ?_
  refine Wk.rPure 3 (some 29) (.slice (some ⟨g, 0, none⟩) n c) rfl rfl (by kernel_rfl) (by kernel_rfl) ?_
  refine Wk.rPure 4 (some 30) (.int .i64 ((c : Nat) : Int)) rfl rfl (by kernel_rfl) (by kernel_rfl) ?_
  refine Wk.rPure 5 (some 31) (.bool false) rfl rfl (by kernel_rfl) (Wk.boolF (b := decide (((n + 1 : Nat) : Int) > ((c : Nat) : Int))) (decide_eq_false (by omega)) (by kernel_rfl)) ?_
  refine Wk.rEnd 6 rfl ?_
  refine Wk.nxt ?_
  refine wp_cond_false (by kernel_rfl) ?_
  refine wp_skip ?_
  refine Wk.nxt ?_
  refine wp_seq ?_
  refine Wk.reg ?_
  refine Wk.rPure 0 (some 56) (.slice (some ⟨g, 0, none⟩) n c) rfl rfl (by kernel_rfl) (by kernel_rfl) ?_
  refine Wk.rPure 1 (some 57) (.int .i64 ((n : Nat) : Int)) rfl rfl (by kernel_rfl) (by kernel_rfl) ?_
  refine Wk.rPure 2 (some 58) (.int .i64 1) rfl rfl (by kernel_rfl) (by kernel_rfl) ?_
  refine Wk.rPure 3 (some 59) (.int .i64 ((n + 1 : Nat) : Int)) rfl rfl (by kernel_rfl) (Wk.int64 (n := ((n : Nat) : Int) + 1) (z := ((n + 1 : Nat) : Int)) (by omega) (by omega) (by omega) (by kernel_rfl)) ?_
  refine Wk.rPure 4 (some 60) (.slice (some ⟨g, 0, none⟩) (n + 1) c) rfl rfl (by kernel_rfl) (Mur.run_toK 22 (.tmp 56) (.tmp 59) rfl 32 Tryd.underlying22 97 (by kernel_rfl) (some ⟨g, 0, none⟩) n c (n + 1) (.inr ⟨_, _, rfl⟩) (by kernel_rfl) (by kernel_rfl) (by omega)) ?_
  refine Wk.rPure 5 (some 0) (.slice (some ⟨g, 0, none⟩) (n + 1) c) rfl rfl (by kernel_rfl) (by kernel_rfl) ?_
  refine Wk.rEnd 6 rfl ?_
  refine Wk.nxt ?_
  refine wp_seq ?_
  refine wp_seq ?_
  refine Wk.reg ?_
  refine Wk.rPure 0 (some 61) (.slice (some ⟨q, 0, none⟩) 1 1) rfl rfl (by kernel_rfl) (by kernel_rfl) ?_
  refine Wk.rPure 1 (some 62) (.slice (some ⟨g, 0, none⟩) (n + 1) c) rfl rfl (by kernel_rfl) (by kernel_rfl) ?_
  refine Wk.rPure 2 (some 63) (.int .i64 ((i : Nat) : Int)) rfl rfl (by kernel_rfl) (by kernel_rfl) ?_
  refine Wk.rPure 3 (some 64) (.int .i64 1) rfl rfl (by kernel_rfl) (by kernel_rfl) ?_
  refine Wk.rPure 4 (some 65) (.int .i64 ((i + 1 : Nat) : Int)) rfl rfl (by kernel_rfl) (Wk.int64 (n := ((i : Nat) : Int) + 1) (z := ((i + 1 : Nat) : Int)) (by omega) (by omega) (by omega) (by kernel_rfl)) ?_
  refine Wk.rPure 5 (some 66) (.slice (some ⟨g, 0 + (i + 1) * 97, none⟩) (n - i) (c - (i + 1))) rfl rfl (by kernel_rfl) (Mur.run_fromS 22 (.tmp 62) (.tmp 65) rfl 32 Tryd.underlying22 97 (by kernel_rfl) g 0 (n + 1) c (i + 1) (by kernel_rfl) (by kernel_rfl) (by omega) (by omega) (n - i) (by omega)) ?_
  refine Wk.rPure 6 (some 67) (.bool false) rfl rfl (by kernel_rfl) (Mur.run_ovl (tS := 22) (tR := 4) (e := 32) Tryd.func62 (by kernel_rfl) (by kernel_rfl) (by kernel_rfl) (by kernel_rfl) Tryd.underlying22 attI (.tmp 61) (.tmp 66) _ rfl q g (0 + (i + 1) * 97) 1 1 (n - i) (c - (i + 1)) (by kernel_rfl) (by kernel_rfl) hqg _ _ _ _ hq hg (by omega)) ?_
  refine Wk.rPure 7 (some 68) (.bool true) rfl rfl (by kernel_rfl) (by kernel_rfl) ?_
  refine Wk.rEnd 8 rfl ?_
  refine Wk.nxt ?_
  refine wp_cond_true (by kernel_rfl) ?_
  refine wp_seq ?_
  refine Wk.dReg ([g]) (by kernel_rfl) ?_
  intro W1 ch1 sz1
  have zz1 := ch1.size
  have sS1 : Wk.Chg ([g]) W1 W1 := (Wk.Chg.refl _).more (by simp)
  refine Wk.dVal 0 (some 69) (.slice (some ⟨g, 0, none⟩) (n + 1) c) rfl rfl (by kernel_rfl) (by kernel_rfl) (by kernel_rfl) (fun _ _ _ h => h) (by kernel_rfl) (fun w' hw' => by kernel_rfl) sS1 ?_
  refine Wk.dVal 1 (some 70) (.int .i64 ((i : Nat) : Int)) rfl rfl (by kernel_rfl) (by kernel_rfl) (by kernel_rfl) (fun _ _ _ h => h) (by kernel_rfl) (fun w' hw' => by kernel_rfl) sS1 ?_
  refine Wk.dVal 2 (some 71) (.int .i64 1) rfl rfl (by kernel_rfl) (by kernel_rfl) (by kernel_rfl) (fun _ _ _ h => h) (by kernel_rfl) (fun w' hw' => by kernel_rfl) sS1 ?_
  refine Wk.dVal 3 (some 72) (.int .i64 ((i + 1 : Nat) : Int)) rfl rfl (by kernel_rfl) (by kernel_rfl) (by kernel_rfl) (fun _ _ _ h => h) (by kernel_rfl) (fun w' hw' => (Wk.int64 (n := ((i : Nat) : Int) + 1) (z := ((i + 1 : Nat) : Int)) (by omega) (by omega) (by omega) (by kernel_rfl))) sS1 ?_
  refine Wk.dVal 4 (some 73) (.slice (some ⟨g, 0 + (i + 1) * 97, none⟩) (n - i) (c - (i + 1))) rfl rfl (by kernel_rfl) (by kernel_rfl) (by kernel_rfl) (fun _ _ _ h => h) (by kernel_rfl) (fun w' hw' => (Mur.run_fromS 22 (.tmp 69) (.tmp 72) rfl 32 Tryd.underlying22 97 (by kernel_rfl) g 0 (n + 1) c (i + 1) (by kernel_rfl) (by kernel_rfl) (by omega) (by omega) (n - i) (by omega))) sS1 ?_
  refine Wk.dVal 5 (some 74) (.slice (some ⟨g, 0, none⟩) (n + 1) c) rfl rfl (by kernel_rfl) (by kernel_rfl) (by kernel_rfl) (fun _ _ _ h => h) (by kernel_rfl) (fun w' hw' => by kernel_rfl) sS1 ?_
  refine Wk.dVal 6 (some 75) (.int .i64 ((i : Nat) : Int)) rfl rfl (by kernel_rfl) (by kernel_rfl) (by kernel_rfl) (fun _ _ _ h => h) (by kernel_rfl) (fun w' hw' => by kernel_rfl) sS1 ?_
  refine Wk.dVal 7 (some 76) (.slice (some ⟨g, 0 + i * 97, none⟩) (n + 1 - i) (c - i)) rfl rfl (by kernel_rfl) (by kernel_rfl) (by kernel_rfl) (fun _ _ _ h => h) (by kernel_rfl) (fun w' hw' => (Mur.run_fromS 22 (.tmp 74) (.tmp 75) rfl 32 Tryd.underlying22 97 (by kernel_rfl) g 0 (n + 1) c i (by kernel_rfl) (by kernel_rfl) (by omega) (by omega) (n + 1 - i) (by omega))) sS1 ?_
  refine Wk.dOp 8 (by kernel_rfl) ?_
  have hfit1 : 0 + (i + 1) * 97 + (Mur.rowA (L.drop i)).length ≤ c * 97 := by simp only [Mur.rowA_len, List.length_drop]; omega
  obtain ⟨Rw1, hRw1⟩ : ∃ R, R = Go.splice cur.toList (0 + (i + 1) * 97) (Mur.rowA (L.drop i)) := ⟨_, rfl⟩
  have hRl1 : Rw1.length = c * 97 := by rw [hRw1]; exact Mur.splice_len hfit1 (by rw [Array.length_toList]; exact hcs)
  refine Wk.oEx (some 77) _ rfl rfl (by kernel_rfl) (Mur.copyK (.tmp 73) (.tmp 76) 22 22 rfl 32 Tryd.underlying22 97 (by kernel_rfl) g (0 + (i + 1) * 97) (n - i) (c - (i + 1)) (by kernel_rfl) g (0 + i * 97) (n + 1 - i) (c - i) (by kernel_rfl) (n - i) (Nat.min_eq_right (by omega)) 32 cur (Mur.rowA (L.drop i)) (Wk.Chg.hp ch1 hg trivial) (by have := Mur.range_cut (Wk.range_row (Wk.Chg.hp ch1 hg trivial)) (i * 97) (Mur.rowA (L.drop i)) (Mur.cut_drop (cur := cur.toList) htk); simpa using this) (by simp only [Mur.rowA_len, List.length_drop]; omega) (Mur.rowA_one _) (Nat.le_trans hfit1 (Nat.le_of_eq hcs.symm)) Rw1 hRw1.symm) ?_
  rintro _ W2 ⟨rfl, hb1, ch2⟩
  have zz2 := ch2.size
  have sS2 := Wk.Chg.step sS1 ch2 ⟨.inl (by simp), trivial⟩
  refine ⟨sS2, ?_⟩
  refine Wk.dEnd (by kernel_rfl) ?_
  refine Wk.nxt ?_
  refine wp_seq ?_
  refine Wk.reg ?_
  refine Wk.rPure 0 (some 78) (.slice (some ⟨g, 0, none⟩) (n + 1) c) rfl rfl (by kernel_rfl) (by kernel_rfl) ?_
  refine Wk.rPure 1 (some 79) (.int .i64 ((i : Nat) : Int)) rfl rfl (by kernel_rfl) (by kernel_rfl) ?_
  refine Wk.rPure 2 (some 80) (.slice (some ⟨g, 0 + i * 97, none⟩) (n + 1 - i) (c - i)) rfl rfl (by kernel_rfl) (Mur.run_fromS 22 (.tmp 78) (.tmp 79) rfl 32 Tryd.underlying22 97 (by kernel_rfl) g 0 (n + 1) c i (by kernel_rfl) (by kernel_rfl) (by omega) (by omega) (n + 1 - i) (by omega)) ?_
  refine Wk.rPure 3 (some 81) (.slice (some ⟨q, 0, none⟩) 1 1) rfl rfl (by kernel_rfl) (by kernel_rfl) ?_
  have hfit2 : 0 + i * 97 + x.C.length ≤ c * 97 := by simp only [Mur.Att.C_len]; omega
  obtain ⟨Rw2, hRw2⟩ : ∃ R, R = Go.splice Rw1.toArray.toList (0 + i * 97) x.C := ⟨_, rfl⟩
  have hRl2 : Rw2.length = c * 97 := by rw [hRw2]; exact Mur.splice_len hfit2 hRl1
  refine Wk.rEx 4 (some 82) _ rfl rfl (by kernel_rfl) (Mur.copyK (.tmp 80) (.tmp 81) 22 22 rfl 32 Tryd.underlying22 97 (by kernel_rfl) g (0 + i * 97) (n + 1 - i) (c - i) (by kernel_rfl) q 0 1 1 (by kernel_rfl) 1 (Nat.min_eq_left (by omega)) 32 Rw1.toArray x.C hb1 (Wk.range_row (Wk.Chg.hp ch2 (Wk.Chg.hp ch1 hq trivial) ⟨by omega, trivial⟩)) (x.C_len) (x.C_one) (Nat.le_trans hfit2 (Nat.le_of_eq (show Rw1.toArray.size = c * 97 from by rw [List.size_toArray]; exact hRl1).symm)) Rw2 hRw2.symm) ?_
  rintro _ W3 ⟨rfl, hb2, ch3⟩
  have zz3 := ch3.size
  refine Wk.rEnd 5 rfl ?_
  refine Wk.nxt ?_
  refine wp_seq ?_
  refine Wk.reg ?_
  refine Wk.rPure 0 (some 83) (.slice (some ⟨g, 0, none⟩) (n + 1) c) rfl rfl (by kernel_rfl) (by kernel_rfl) ?_
  refine Wk.rPure 1 (some 6) (.slice (some ⟨g, 0, none⟩) (n + 1) c) rfl rfl (by kernel_rfl) (by kernel_rfl) ?_
  refine Wk.rEnd 2 rfl ?_
  refine Wk.nxt ?_
  refine wp_ret ?_
  refine Wk.thR ?_
  have kk1 : Wk.Chg [g] (w) W1 := Wk.Chg.step ((Wk.Chg.refl _).more (by simp)) ch1 trivial
  have kk2 := Wk.Chg.step kk1 ch2 ⟨.inl (by simp), trivial⟩
  have kk3 := Wk.Chg.step kk2 ch3 ⟨.inl (by simp), trivial⟩
  have hfin : Rw2 = cur.toList.take (i * 97) ++ (x.C ++ (Mur.rowA (L.drop i) ++ cur.toList.drop (i * 97 + 97 + (Mur.rowA (L.drop i)).length))) := by rw [hRw2, show Rw1.toArray.toList = Rw1 from rfl, show 0 + i * 97 = i * 97 by omega, hRw1, show 0 + (i + 1) * 97 = i * 97 + 97 by omega]; exact Mur.ins_back (p := i * 97) x.C_len (by have h_ : cur.toList.length = c * 97 := (by rw [Array.length_toList]; exact hcs); simp only [Mur.rowA_len, List.length_drop]; omega)
  have hrow := Mur.ins_row (n := n) x (by omega) hl htp
  rw [← hfin] at hrow
  have hsz : Rw2.toArray.size = c * 97 := by rw [List.size_toArray]; exact hRl2
  refine Wk.ret (.slice (some ⟨g, 0, none⟩) (n + 1) c) rfl (by kernel_rfl) ?_
  exact ⟨_, _, rfl, Mur.OwnA.of hbg hb2 (by omega) (by omega) hsz hrow (by simp only [List.length_append, List.length_cons, List.length_take, List.length_drop]; omega), kk3, fun q' h1 => .inl h1⟩
theorem Insert_grow (L : List Att) (base : Nat) (A : Option Addr) (n c i : Nat) (x : Att) (q : Nat) (w : World) (h : OwnA w base 32 A n c L) (hn : n ≤ 100000) (hbase : base ≤ w.heap.size) (hq : w.heap[q]? = some (.cells (attC x.k x.r x.n x.t).toArray 32 (0, 0))) (hqA : ∀ g, (Value.slice A n c).ownBlock = some g → g ≠ q) (hi : i < n) (hc : c < n + 1) : Calls Tryd.prog 41 #[.slice A n c, .int .i64 ((i : Nat) : Int), .slice (some ⟨q, 0, none⟩) 1 1] w fun e w' => ∃ A1 c1, e = .returned (.slice A1 (n + 1) c1) ∧ OwnA w' base 32 A1 (n + 1) c1 (L.take i ++ x :: L.drop i) ∧ Wk.Chg (Wk.blk (.slice A n c)) w w' ∧ (∀ q', (Value.slice A1 (n + 1) c1).ownBlock = some q' → (Value.slice A n c).ownBlock = some q' ∨ w.heap.size ≤ q') := by
  have hl := h.sl.len
  have hcn := h.nc
  have hcmx := h.cm
  have hql := (Array.getElem?_eq_some_iff.1 hq).1
  obtain ⟨g, cur, rfl, hbg, hg, hcs, htk⟩ := h.cur.resolve_left (fun q => by omega)
  have hqg : q ≠ g := fun e => hqA g rfl e.symm
  have htq : cur.toList.take (i * 97) = Mur.rowA (L.take i) := by rw [Mur.rowA_take, ← htk, List.take_take, Nat.min_eq_left (by omega)]
  have hgl := (Array.getElem?_eq_some_iff.1 hg).1
  refine calls_of_wp Tryd.func41 rfl ?_
  refine wp_seq ?_
  refine Wk.reg ?_
  refine Wk.rPure 0 (some 6) (.slice none 0 0) rfl rfl (by kernel_rfl) (by kernel_rfl) ?_
  refine Wk.rEnd 1 rfl ?_
  refine Wk.nxt ?_
  refine wp_seq ?_
  refine Wk.reg ?_
  refine Wk.rPure 0 (some 10) (.slice (some ⟨g, 0, none⟩) n c) rfl rfl (by kernel_rfl) (by kernel_rfl) ?_
  refine Wk.rPure 1 (some 11) (.int .i64 ((i : Nat) : Int)) rfl rfl (by kernel_rfl) (by kernel_rfl) ?_
  refine Wk.rPure 2 (some 12) (.slice (if c = i then some ⟨g, 0, none⟩ else (some ⟨g, 0, none⟩ : Option Addr).map (·.add (i * 97))) (n - i) (c - i)) rfl rfl (by kernel_rfl) (Mur.run_fromK 22 (.tmp 10) (.tmp 11) rfl 32 Tryd.underlying22 97 (by kernel_rfl) (some ⟨g, 0, none⟩) n c i (by kernel_rfl) (by kernel_rfl) (by omega) _ rfl) ?_
  refine Wk.rEnd 3 rfl ?_
  refine Wk.nxt ?_
  refine wp_seq ?_
  refine Wk.reg ?_
  refine Wk.rPure 0 (some 13) (.slice (some ⟨q, 0, none⟩) 1 1) rfl rfl (by kernel_rfl) (by kernel_rfl) ?_
  refine Wk.rPure 1 (some 14) (.int .i64 1) rfl rfl (by kernel_rfl) (by kernel_rfl) ?_
  refine Wk.rPure 2 (some 7) (.int .i64 1) rfl rfl (by kernel_rfl) (by kernel_rfl) ?_
  refine Wk.rEnd 3 rfl ?_
  refine Wk.nxt ?_
  refine wp_seq ?_
  refine wp_seq ?_
  refine Wk.reg ?_
  refine Wk.rPure 0 (some 15) (.int .i64 1) rfl rfl (by kernel_rfl) (by kernel_rfl) ?_
  refine Wk.rPure 1 (some 16) (.bool false) rfl rfl (by kernel_rfl) (Wk.boolF (b := ((1 : Int) == (0 : Int))) (beq_eq_false_iff_ne.2 (by decide)) (by kernel_rfl)) ?_
  refine Wk.rEnd 2 rfl ?_
  refine Wk.nxt ?_
  refine wp_cond_false (by kernel_rfl) ?_
  refine wp_skip ?_
  refine Wk.nxt ?_
  refine wp_seq ?_
  refine Wk.reg ?_
  refine Wk.rPure 0 (some 18) (.slice (some ⟨g, 0, none⟩) n c) rfl rfl (by kernel_rfl) (by kernel_rfl) ?_
  refine Wk.rPure 1 (some 19) (.int .i64 ((n : Nat) : Int)) rfl rfl (by kernel_rfl) (by kernel_rfl) ?_
  refine Wk.rPure 2 (some 8) (.int .i64 ((n : Nat) : Int)) rfl rfl (by kernel_rfl) (by kernel_rfl) ?_
  refine Wk.rEnd 3 rfl ?_
  refine Wk.nxt ?_
  refine wp_seq ?_
  refine wp_seq ?_
  refine Wk.reg ?_
  refine Wk.rPure 0 (some 20) (.int .i64 ((i : Nat) : Int)) rfl rfl (by kernel_rfl) (by kernel_rfl) ?_
  refine Wk.rPure 1 (some 21) (.int .i64 ((n : Nat) : Int)) rfl rfl (by kernel_rfl) (by kernel_rfl) ?_
  refine Wk.rPure 2 (some 22) (.bool false) rfl rfl (by kernel_rfl) (Wk.boolF (b := (((i : Nat) : Int) == ((n : Nat) : Int))) (beq_eq_false_iff_ne.2 (by omega)) (by kernel_rfl)) ?_
  refine Wk.rEnd 3 rfl ?_
  refine Wk.nxt ?_
  refine wp_cond_false (by kernel_rfl) ?_
  refine wp_skip ?_
  refine Wk.nxt ?_
  refine wp_seq ?_
  refine wp_seq ?_
  refine Wk.reg ?_
  refine Wk.rPure 0 (some 26) (.int .i64 ((n : Nat) : Int)) rfl rfl (by kernel_rfl) (by kernel_rfl) ?_
  refine Wk.rPure 1 (some 27) (.int .i64 1) rfl rfl (by kernel_rfl) (by kernel_rfl) ?_
  refine Wk.rPure 2 (some 28) (.int .i64 ((n + 1 : Nat) : Int)) rfl rfl (by kernel_rfl) (Wk.int64 (n := ((n : Nat) : Int) + 1) (z := ((n + 1 : Nat) : Int)) (by omega) (by omega) (by omega) (by kernel_rfl)) ?_
  refine Wk.rPure 3 (some 29) (.slice (some ⟨g, 0, none⟩) n c) rfl rfl (by kernel_rfl) (by kernel_rfl) ?_
  refine Wk.rPure 4 (some 30) (.int .i64 ((c : Nat) : Int)) rfl rfl (by kernel_rfl) (by kernel_rfl) ?_
  refine Wk.rPure 5 (some 31) (.bool true) rfl rfl (by kernel_rfl) (Wk.boolT (b := decide (((n + 1 : Nat) : Int) > ((c : Nat) : Int))) (decide_eq_true (by omega)) (by kernel_rfl)) ?_
  refine Wk.rEnd 6 rfl ?_
  refine Wk.nxt ?_
  refine wp_cond_true (by kernel_rfl) ?_
  refine wp_seq ?_
  refine Wk.reg ?_
  refine Wk.rPure 0 (some 32) (.slice (some ⟨g, 0, none⟩) n c) rfl rfl (by kernel_rfl) (by kernel_rfl) ?_
  refine Wk.rPure 1 (some 33) (.int .i64 ((i : Nat) : Int)) rfl rfl (by kernel_rfl) (by kernel_rfl) ?_
  refine Wk.rPure 2 (some 34) (.slice (some ⟨g, 0, none⟩) i c) rfl rfl (by kernel_rfl) (Mur.run_toK 22 (.tmp 32) (.tmp 33) rfl 32 Tryd.underlying22 97 (by kernel_rfl) (some ⟨g, 0, none⟩) n c i (.inr ⟨_, _, rfl⟩) (by kernel_rfl) (by kernel_rfl) (by omega)) ?_
  refine Wk.rPure 3 (some 35) (.int .i64 ((n : Nat) : Int)) rfl rfl (by kernel_rfl) (by kernel_rfl) ?_
  refine Wk.rPure 4 (some 36) (.int .i64 1) rfl rfl (by kernel_rfl) (by kernel_rfl) ?_
  refine Wk.rPure 5 (some 37) (.int .i64 ((n + 1 : Nat) : Int)) rfl rfl (by kernel_rfl) (Wk.int64 (n := ((n : Nat) : Int) + 1) (z := ((n + 1 : Nat) : Int)) (by omega) (by omega) (by omega) (by kernel_rfl)) ?_
  refine Wk.rPure 6 (some 38) (.int .i64 ((i : Nat) : Int)) rfl rfl (by kernel_rfl) (by kernel_rfl) ?_
  refine Wk.rPure 7 (some 39) (.int .i64 ((n + 1 - i : Nat) : Int)) rfl rfl (by kernel_rfl) (Wk.int64 (n := ((n + 1 : Nat) : Int) - ((i : Nat) : Int)) (z := ((n + 1 - i : Nat) : Int)) (by omega) (by omega) (by omega) (by kernel_rfl)) ?_
  refine Wk.rEx 8 (some 40) _ rfl rfl (by kernel_rfl) (Mur.growZ (.tmp 34) (.tmp 39) 22 3 32 rfl Tryd.underlying22 .i64 Tryd.underlying3 attI g i c (n + 1 - i) (n + 1) cur (L.take i) (by kernel_rfl) (by kernel_rfl) hg htq (by rw [List.length_take]; omega) (by omega) (by omega) (by omega) (by omega)) ?_
  rintro _ W1 ⟨CC1, cs1, rfl, hb1, htk1, hcs1, hq1, hq2, ch1, sz1⟩
  have zz1 := ch1.size
  have hcs := hcs1
  have htp := htk1
  have hcm := hq2
  have hNC := hq1
  refine Wk.rPure 9 (some 9) (.slice (some ⟨w.heap.size, 0, none⟩) (n + 1) CC1) rfl rfl (by kernel_rfl) (by kernel_rfl) ?_
  refine Wk.rEnd 10 rfl ?_
  refine Wk.nxt ?_
  refine wp_seq ?_
  refine Wk.reg ?_
  refine Wk.rPure 0 (some 41) (.slice (some ⟨w.heap.size, 0, none⟩) (n + 1) CC1) rfl rfl (by kernel_rfl) (by kernel_rfl) ?_
  refine Wk.rPure 1 (some 42) (.int .i64 ((i : Nat) : Int)) rfl rfl (by kernel_rfl) (by kernel_rfl) ?_
  refine Wk.rPure 2 (some 43) (.slice (some ⟨w.heap.size, 0 + i * 97, none⟩) (n + 1 - i) (CC1 - i)) rfl rfl (by kernel_rfl) (Mur.run_fromS 22 (.tmp 41) (.tmp 42) rfl 32 Tryd.underlying22 97 (by kernel_rfl) w.heap.size 0 (n + 1) CC1 i (by kernel_rfl) (by kernel_rfl) (by omega) (by omega) (n + 1 - i) (by omega)) ?_
  refine Wk.rPure 3 (some 44) (.slice (some ⟨q, 0, none⟩) 1 1) rfl rfl (by kernel_rfl) (by kernel_rfl) ?_
  have hfit1 : 0 + i * 97 + x.C.length ≤ CC1 * 97 := by simp only [Mur.Att.C_len]; omega
  obtain ⟨Rw1, hRw1⟩ : ∃ R, R = Go.splice cs1.toList (0 + i * 97) x.C := ⟨_, rfl⟩
  have hRl1 : Rw1.length = CC1 * 97 := by rw [hRw1]; exact Mur.splice_len hfit1 (by rw [Array.length_toList]; exact hcs)
  refine Wk.rEx 4 (some 45) _ rfl rfl (by kernel_rfl) (Mur.copyK (.tmp 43) (.tmp 44) 22 22 rfl 32 Tryd.underlying22 97 (by kernel_rfl) w.heap.size (0 + i * 97) (n + 1 - i) (CC1 - i) (by kernel_rfl) q 0 1 1 (by kernel_rfl) 1 (Nat.min_eq_left (by omega)) 32 cs1 x.C hb1 (Wk.range_row (Wk.Chg.hp ch1 hq trivial)) (x.C_len) (x.C_one) (Nat.le_trans hfit1 (Nat.le_of_eq hcs.symm)) Rw1 hRw1.symm) ?_
  rintro _ W2 ⟨rfl, hb2, ch2⟩
  have zz2 := ch2.size
  refine Wk.rEnd 5 rfl ?_
  refine Wk.nxt ?_
  refine wp_seq ?_
  refine Wk.dReg ([w.heap.size]) (by kernel_rfl) ?_
  intro W3 ch3 sz2
  have zz3 := ch3.size
  have sS1 : Wk.Chg ([w.heap.size]) W3 W3 := (Wk.Chg.refl _).more (by simp)
  refine Wk.dVal 0 (some 46) (.slice (some ⟨w.heap.size, 0, none⟩) (n + 1) CC1) rfl rfl (by kernel_rfl) (by kernel_rfl) (by kernel_rfl) (fun _ _ _ h => h) (by kernel_rfl) (fun w' hw' => by kernel_rfl) sS1 ?_
  refine Wk.dVal 1 (some 47) (.int .i64 ((i : Nat) : Int)) rfl rfl (by kernel_rfl) (by kernel_rfl) (by kernel_rfl) (fun _ _ _ h => h) (by kernel_rfl) (fun w' hw' => by kernel_rfl) sS1 ?_
  refine Wk.dVal 2 (some 48) (.int .i64 1) rfl rfl (by kernel_rfl) (by kernel_rfl) (by kernel_rfl) (fun _ _ _ h => h) (by kernel_rfl) (fun w' hw' => by kernel_rfl) sS1 ?_
  refine Wk.dVal 3 (some 49) (.int .i64 ((i + 1 : Nat) : Int)) rfl rfl (by kernel_rfl) (by kernel_rfl) (by kernel_rfl) (fun _ _ _ h => h) (by kernel_rfl) (fun w' hw' => (Wk.int64 (n := ((i : Nat) : Int) + 1) (z := ((i + 1 : Nat) : Int)) (by omega) (by omega) (by omega) (by kernel_rfl))) sS1 ?_
  refine Wk.dVal 4 (some 50) (.slice (some ⟨w.heap.size, 0 + (i + 1) * 97, none⟩) (n - i) (CC1 - (i + 1))) rfl rfl (by kernel_rfl) (by kernel_rfl) (by kernel_rfl) (fun _ _ _ h => h) (by kernel_rfl) (fun w' hw' => (Mur.run_fromS 22 (.tmp 46) (.tmp 49) rfl 32 Tryd.underlying22 97 (by kernel_rfl) w.heap.size 0 (n + 1) CC1 (i + 1) (by kernel_rfl) (by kernel_rfl) (by omega) (by omega) (n - i) (by omega))) sS1 ?_
  refine Wk.dVal 5 (some 51) (.slice (some ⟨g, 0, none⟩) n c) rfl rfl (by kernel_rfl) (by kernel_rfl) (by kernel_rfl) (fun _ _ _ h => h) (by kernel_rfl) (fun w' hw' => by kernel_rfl) sS1 ?_
  refine Wk.dVal 6 (some 52) (.int .i64 ((i : Nat) : Int)) rfl rfl (by kernel_rfl) (by kernel_rfl) (by kernel_rfl) (fun _ _ _ h => h) (by kernel_rfl) (fun w' hw' => by kernel_rfl) sS1 ?_
  refine Wk.dVal 7 (some 53) (.slice (some ⟨g, 0 + i * 97, none⟩) (n - i) (c - i)) rfl rfl (by kernel_rfl) (by kernel_rfl) (by kernel_rfl) (fun _ _ _ h => h) (by kernel_rfl) (fun w' hw' => (Mur.run_fromS 22 (.tmp 51) (.tmp 52) rfl 32 Tryd.underlying22 97 (by kernel_rfl) g 0 n c i (by kernel_rfl) (by kernel_rfl) (by omega) (by omega) (n - i) (by omega))) sS1 ?_
  refine Wk.dOp 8 (by kernel_rfl) ?_
  have hfit2 : 0 + (i + 1) * 97 + (Mur.rowA (L.drop i)).length ≤ CC1 * 97 := by simp only [Mur.rowA_len, List.length_drop]; omega
  obtain ⟨Rw2, hRw2⟩ : ∃ R, R = Go.splice Rw1.toArray.toList (0 + (i + 1) * 97) (Mur.rowA (L.drop i)) := ⟨_, rfl⟩
  have hRl2 : Rw2.length = CC1 * 97 := by rw [hRw2]; exact Mur.splice_len hfit2 hRl1
  refine Wk.oEx (some 54) _ rfl rfl (by kernel_rfl) (Mur.copyK (.tmp 50) (.tmp 53) 22 22 rfl 32 Tryd.underlying22 97 (by kernel_rfl) w.heap.size (0 + (i + 1) * 97) (n - i) (CC1 - (i + 1)) (by kernel_rfl) g (0 + i * 97) (n - i) (c - i) (by kernel_rfl) (n - i) (Nat.min_eq_left (by omega)) 32 Rw1.toArray (Mur.rowA (L.drop i)) (Wk.Chg.hp ch3 hb2 trivial) (by have := Mur.range_cut (Wk.range_row (Wk.Chg.hp ch3 (Wk.Chg.hp ch2 (Wk.Chg.hp ch1 hg trivial) ⟨by omega, trivial⟩) trivial)) (i * 97) (Mur.rowA (L.drop i)) (Mur.cut_drop (cur := cur.toList) htk); simpa using this) (by simp only [Mur.rowA_len, List.length_drop]; omega) (Mur.rowA_one _) (Nat.le_trans hfit2 (Nat.le_of_eq (show Rw1.toArray.size = CC1 * 97 from by rw [List.size_toArray]; exact hRl1).symm)) Rw2 hRw2.symm) ?_
  rintro _ W4 ⟨rfl, hb3, ch4⟩
  have zz4 := ch4.size
  have sS2 := Wk.Chg.step sS1 ch4 ⟨.inl (by simp), trivial⟩
  refine ⟨sS2, ?_⟩
  refine Wk.dEnd (by kernel_rfl) ?_
  refine Wk.nxt ?_
  refine wp_seq ?_
  refine Wk.reg ?_
  refine Wk.rPure 0 (some 55) (.slice (some ⟨w.heap.size, 0, none⟩) (n + 1) CC1) rfl rfl (by kernel_rfl) (by kernel_rfl) ?_
  refine Wk.rPure 1 (some 6) (.slice (some ⟨w.heap.size, 0, none⟩) (n + 1) CC1) rfl rfl (by kernel_rfl) (by kernel_rfl) ?_
  refine Wk.rEnd 2 rfl ?_
  refine Wk.nxt ?_
  refine wp_ret ?_
  refine Wk.thR ?_
  have kk1 : Wk.Chg [] (w) W1 := Wk.Chg.step ((Wk.Chg.refl _).more (by simp)) ch1 trivial
  have kk2 := Wk.Chg.step kk1 ch2 ⟨.inr (by omega), trivial⟩
  have kk3 := Wk.Chg.step kk2 ch3 trivial
  have kk4 := Wk.Chg.step kk3 ch4 ⟨.inr (by omega), trivial⟩
  have hfin : Rw2 = cs1.toList.take (i * 97) ++ (x.C ++ (Mur.rowA (L.drop i) ++ cs1.toList.drop (i * 97 + 97 + (Mur.rowA (L.drop i)).length))) := by rw [hRw2, show Rw1.toArray.toList = Rw1 from rfl, show 0 + (i + 1) * 97 = i * 97 + 97 by omega, hRw1, show 0 + i * 97 = i * 97 by omega]; exact Mur.ins_fore (p := i * 97) x.C_len (by have h_ : cs1.toList.length = CC1 * 97 := (by rw [Array.length_toList]; exact hcs); simp only [Mur.rowA_len, List.length_drop]; omega)
  have hrow := Mur.ins_row (n := n) x (by omega) hl htp
  rw [← hfin] at hrow
  have hsz : Rw2.toArray.size = CC1 * 97 := by rw [List.size_toArray]; exact hRl2
  refine Wk.ret (.slice (some ⟨w.heap.size, 0, none⟩) (n + 1) CC1) rfl (by kernel_rfl) ?_
  exact ⟨_, _, rfl, Mur.OwnA.of (by omega) hb3 (by omega) (by omega) hsz hrow (by simp only [List.length_append, List.length_cons, List.length_take, List.length_drop]; omega), (kk4.more (by simp)), fun q' h1 => .inr (by simp [Value.ownBlock] at h1; omega)⟩
theorem Insert_any (L : List Att) (base : Nat) (A : Option Addr) (n c i : Nat) (x : Att) (q : Nat) (w : World) (h : OwnA w base 32 A n c L) (hn : n ≤ 100000) (hbase : base ≤ w.heap.size) (hq : w.heap[q]? = some (.cells (attC x.k x.r x.n x.t).toArray 32 (0, 0))) (hqA : ∀ g, (Value.slice A n c).ownBlock = some g → g ≠ q) (hi : i ≤ n) : Calls Tryd.prog 41 #[.slice A n c, .int .i64 ((i : Nat) : Int), .slice (some ⟨q, 0, none⟩) 1 1] w fun e w' => ∃ A1 c1, e = .returned (.slice A1 (n + 1) c1) ∧ OwnA w' base 32 A1 (n + 1) c1 (L.take i ++ x :: L.drop i) ∧ Wk.Chg (Wk.blk (.slice A n c)) w w' ∧ (∀ q', (Value.slice A1 (n + 1) c1).ownBlock = some q' → (Value.slice A n c).ownBlock = some q' ∨ w.heap.size ≤ q') := by
  by_cases h1 : i = n
  · subst h1
    exact Insert_app L base A i c x q w h hn hbase hq hqA
  · by_cases h2 : n + 1 ≤ c
    · exact Insert_in L base A n c i x q w h hn hbase hq hqA (by omega) h2
    · exact Insert_grow L base A n c i x q w h hn hbase hq hqA (by omega) (by omega)
end Go.Proofs.YtfhneademopciaaDoor
