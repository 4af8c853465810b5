/- What the row rests on, part 7. -/
import Derived.Test.YtgbadghjnpbiaaaDoorRA6
namespace Go.Proofs.YtgbadghjnpbiaaaDoor
open Go.RowKit Wk
open Mur (b8s Byt Own8 Seg Segs flat cutA attC Att SlA OwnA rowA msgC formN byt_chg ok_cons byt_from run_op_from readN_nil readN_short byt_cell conv_int readN_big readN_zero byt_to run_op_cut_to beN_lt56 shl8_64 u64_nat add_u64 beN_more beN_lt64 readN_ok)
set_option maxRecDepth 100000
set_option maxHeartbeats 4000000
def UintW_F1 (b : Array Value) (u1 : Value) (u4 : Value) (u8 : Value) (u54 : Value) (u55 : Value) (u56 : Value) : Act := ⟨#[gd b 0, u1, gd b 2, gd b 3, u4, gd b 5, gd b 6, gd b 7, u8, gd b 9, gd b 10, gd b 11, gd b 12, gd b 13, gd b 14, gd b 15, gd b 16, gd b 17, gd b 18, gd b 19, gd b 20, gd b 21, gd b 22, gd b 23, gd b 24, gd b 25, gd b 26, gd b 27, gd b 28, gd b 29, gd b 30, gd b 31, gd b 32, gd b 33, gd b 34, gd b 35, gd b 36, gd b 37, gd b 38, gd b 39, gd b 40, gd b 41, gd b 42, gd b 43, gd b 44, gd b 45, gd b 46, gd b 47, gd b 48, gd b 49, gd b 50, gd b 51, gd b 52, gd b 53, u54, u55, u56, gd b 57, gd b 58, gd b 59, gd b 60, gd b 61, gd b 62, gd b 63, gd b 64, gd b 65, gd b 66, gd b 67, gd b 68, gd b 69, gd b 70], []⟩
def UintW_F2 (b : Array Value) (u1 : Value) (u4 : Value) (u8 : Value) (u54 : Value) (u55 : Value) (u56 : Value) : Act := ⟨#[gd b 0, u1, gd b 2, gd b 3, u4, gd b 5, gd b 6, gd b 7, u8, gd b 9, gd b 10, gd b 11, gd b 12, gd b 13, gd b 14, gd b 15, gd b 16, gd b 17, gd b 18, gd b 19, gd b 20, gd b 21, gd b 22, gd b 23, gd b 24, gd b 25, gd b 26, gd b 27, gd b 28, gd b 29, gd b 30, gd b 31, gd b 32, gd b 33, gd b 34, gd b 35, gd b 36, gd b 37, gd b 38, gd b 39, gd b 40, gd b 41, gd b 42, gd b 43, gd b 44, gd b 45, gd b 46, gd b 47, gd b 48, gd b 49, gd b 50, gd b 51, gd b 52, gd b 53, u54, u55, u56, gd b 57, gd b 58, gd b 59, gd b 60, gd b 61, gd b 62, gd b 63, gd b 64, gd b 65, gd b 66, gd b 67, gd b 68, gd b 69, gd b 70], []⟩
def UintW_F3 (b : Array Value) (u1 : Value) (u4 : Value) (u8 : Value) (u54 : Value) (u55 : Value) (u56 : Value) : Act := ⟨#[gd b 0, u1, gd b 2, gd b 3, u4, gd b 5, gd b 6, gd b 7, u8, gd b 9, gd b 10, gd b 11, gd b 12, gd b 13, gd b 14, gd b 15, gd b 16, gd b 17, gd b 18, gd b 19, gd b 20, gd b 21, gd b 22, gd b 23, gd b 24, gd b 25, gd b 26, gd b 27, gd b 28, gd b 29, gd b 30, gd b 31, gd b 32, gd b 33, gd b 34, gd b 35, gd b 36, gd b 37, gd b 38, gd b 39, gd b 40, gd b 41, gd b 42, gd b 43, gd b 44, gd b 45, gd b 46, gd b 47, gd b 48, gd b 49, gd b 50, gd b 51, gd b 52, gd b 53, u54, u55, u56, gd b 57, gd b 58, gd b 59, gd b 60, gd b 61, gd b 62, gd b 63, gd b 64, gd b 65, gd b 66, gd b 67, gd b 68, gd b 69, gd b 70], []⟩
theorem AppendUint_any (b : List UInt8) (A : Option Addr) (n c : Nat) (N : Nat) (w : World) (hb : Byt w A n b) (hnc : n ≤ c ∧ c ≤ Go.maxLen) (hnil : A = none → c = 0) (hn : n ≤ 140737488350000) (hN : N < 18446744073709551616) : Calls Tryd.prog 79 #[.slice A n c, .int .u64 ((N : Nat) : Int)] w fun e w' => ∃ A1 n1 c1, e = .returned (.slice A1 n1 c1) ∧ Own8 w' w.heap.size 5 A1 n1 c1 (b ++ formN N) ∧ Chg [] w w' := by
 have hbl_ := hb.1
 refine calls_of_wp Tryd.func79 rfl ?_
 refine wp_seq (reg ?_)
 refine rP 0 4 (.slice none 0 0) ?_
 refine rEnd 1 rfl (nxt (wp_seq (reg ?_)))
 refine rP 0 5 (.slice A n c) ?_
 refine rP 1 6 (.int .u64 ((N : Nat) : Int)) ?_
 refine rC 2 7 94 [.tmp 6] #[24] [.int .u64 ((N : Nat) : Int)] ?_
 refine (form_any N (by omega) w).mono ?_
 rintro _ W1 ⟨qf1, of1, nf1, rfl, hbf1, hqf1, hnf1, ch1⟩
 have zz1 := ch1.size
 have hlt1 : ∀ g off, (some ⟨qf1, of1, none⟩ : Option Addr) = some ⟨g, off, none⟩ → w.heap.size ≤ g ∧ g < W1.heap.size := fun g off e => by cases e; exact hqf1
 refine ⟨_, rfl, ?_⟩
 refine rX 3 8 rfl rfl (new_ex (.slice (some ⟨W1.heap.size, 0, none⟩) 2 2) #[.slice A n c, .slice (some ⟨qf1, of1, none⟩) nf1 nf1] 22 (by kernel_rfl)) ?_
 rintro _ W2 ⟨rfl, hb1, ch2, sz1⟩
 have zz2 := ch2.size
 refine rC 4 9 86 [.tmp 8] #[127] [.slice (some ⟨W1.heap.size, 0, none⟩) 2 2] ?_
 have kk1 : Chg [] w W1 := Chg.step ((Chg.refl _).more (by simp)) ch1 trivial
 have kk2 := Chg.step kk1 ch2 trivial
 have hby1 := (byt_chg hb kk2 (fun g off e hl => trivial))
 have hby2 := (byt_chg hbf1 ch2 (fun g off e hl => trivial))
 refine (behind_any ([⟨A, n, c, b⟩, ⟨(some ⟨qf1, of1, none⟩), nf1, nf1, (formN N)⟩]) (some ⟨W1.heap.size, 0, none⟩) 2 2 W2 (Mur.segs_lit [⟨A, n, c, b⟩, ⟨(some ⟨qf1, of1, none⟩), nf1, nf1, (formN N)⟩] 2 hb1 (ok_cons ⟨(show n ≤ c by omega), hnil, hby1, (show c ≤ Go.maxLen by first | omega | (unfold Go.maxLen; omega))⟩ (ok_cons ⟨(show nf1 ≤ nf1 by omega), (fun h => by cases h), hby2, (show nf1 ≤ Go.maxLen by first | omega | (unfold Go.maxLen; omega))⟩ Mur.ok_nil)) rfl) (by omega) (by show (b ++ ((formN N) ++ [])).length ≤ _; simp only [List.length_append, List.length_nil]; have hl0 := hby1.1; have hl1 := hby2.1; omega)).mono ?_
 rintro _ W3 ⟨AA1, nn1, nn2, rfl, ow1, ch3⟩
 have zz3 := ch3.size
 rw [show Mur.flat ([⟨A, n, c, b⟩, ⟨(some ⟨qf1, of1, none⟩), nf1, nf1, (formN N)⟩]) = b ++ formN N from by simp [Mur.flat]] at ow1
 have hq1 := ow1.nc
 have hq2 := ow1.cm
 refine ⟨_, rfl, ?_⟩
 refine rP 5 4 (.slice AA1 nn1 nn2) ?_
 refine rEnd 6 rfl (nxt (wp_ret ?_))
 have kk3 := Chg.step kk2 ch3 trivial
 refine rt (.slice AA1 nn1 nn2) ?_
 exact ⟨_, _, _, rfl, Mur.own8_low ow1 (by omega), kk3⟩
theorem Uint_any (b : List UInt8) (A : Option Addr) (n c : Nat) (at_ : Nat) (w : World) (hb : Byt w A n b) (hnc : n ≤ c ∧ c ≤ 9223372036854775807) (hat : at_ ≤ n) : Calls Tryd.prog 66 #[.slice A n c, .int .i64 ((at_ : Nat) : Int)] w fun e w' => ∃ v nx er : Nat, e = .returned (.tuple #[.int .u64 ((v : Nat) : Int), .int .i64 ((nx : Nat) : Int), .int .i64 ((er : Nat) : Int)]) ∧ ((er = 0 ∧ v < 18446744073709551616 ∧ (at_ < nx ∧ nx ≤ n) ∧ Mur.readN (b.drop at_) = some (v, b.drop nx)) ∨ (er ≠ 0 ∧ v = 0 ∧ nx = 0 ∧ Mur.readN (b.drop at_) = none)) ∧ w = w' := by
 have hbl_ := hb.1
 refine calls_of_wp Tryd.func66 rfl ?_
 refine wp_seq (reg ?_)
 refine rP 0 4 (.int .u64 0) ?_
 refine rP 1 5 (.int .i64 0) ?_
 refine rP 2 6 (.int .i64 0) ?_
 refine rEnd 3 rfl (nxt (wp_seq (wp_seq (reg ?_))))
 refine rP 0 11 (.int .i64 ((at_ : Nat) : Int)) ?_
 refine rQ 1 12 _ rfl rfl (qboolF (b := decide (((at_ : Nat) : Int) < (0 : Int))) (decide_eq_false (by omega))) ?_
 refine rP 2 13 (.bool false) ?_
 refine rP 3 14 (.int .i64 ((at_ : Nat) : Int)) ?_
 refine rP 4 15 (.slice A n c) ?_
 refine rP 5 16 (.int .i64 ((n : Nat) : Int)) ?_
 refine rQ 6 17 _ rfl rfl (qboolF (b := decide (((at_ : Nat) : Int) > ((n : Nat) : Int))) (decide_eq_false (by omega))) ?_
 refine rP 7 18 (.bool false) ?_
 refine rEnd 8 rfl (nxt (wp_cond_false (by kernel_rfl) (wp_skip (nxt (wp_seq (reg ?_))))))
 refine rP 0 19 (.slice A n c) ?_
 refine rP 1 20 (.int .i64 ((at_ : Nat) : Int)) ?_
 obtain ⟨Ac1, hAc1⟩ : ∃ x_, x_ = Mur.cutA A c at_ := ⟨_, rfl⟩
 have hbc1 : Byt w Ac1 (n - at_) (b.drop at_) := by rw [hAc1]; exact byt_from hb at_ (by omega) (by omega)
 refine rQ 2 21 (.slice Ac1 (n - at_) (c - at_)) rfl rfl (by rw [hAc1]; exact run_op_from 22 (.tmp 19) (.tmp 20) rfl 5 Tryd.underlying22 (by kernel_rfl) A n c at_ (by kernel_rfl) (by kernel_rfl) (by omega) (by omega)) ?_
 refine rP 3 7 (.slice Ac1 (n - at_) (c - at_)) ?_
 refine rEnd 4 rfl (nxt (wp_seq (wp_seq (reg ?_))))
 refine rP 0 22 (.slice Ac1 (n - at_) (c - at_)) ?_
 refine rP 1 23 (.int .i64 ((n - at_ : Nat) : Int)) ?_
 by_cases hx1 : ((n - at_ : Nat) : Int) = (0 : Int)
 ·refine rQ 2 24 _ rfl rfl (qboolT (b := (((n - at_ : Nat) : Int) == (0 : Int))) (beq_iff_eq.2 (by first | exact hx1 | omega))) ?_
  refine rEnd 3 rfl (nxt (wp_cond_true (by kernel_rfl) (wp_seq (reg ?_))))
  refine rP 0 4 (.int .u64 0) ?_
  refine rP 1 5 (.int .i64 0) ?_
  refine rP 2 6 (.int .i64 4) ?_
  refine rEnd 3 rfl (nxt (wp_ret (thR ?_)))
  refine rt (.tuple #[.int .u64 0, .int .i64 0, .int .i64 4]) ?_
  exact ⟨0, 0, _, rfl, .inr ⟨by decide, rfl, rfl, (by first | exact readN_nil (by omega) | exact readN_short hsr (by omega))⟩, rfl⟩
 refine rQ 2 24 _ rfl rfl (qboolF (b := (((n - at_ : Nat) : Int) == (0 : Int))) (beq_eq_false_iff_ne.2 (by first | exact hx1 | omega))) ?_
 refine rEnd 3 rfl (nxt (wp_cond_false (by kernel_rfl) (wp_skip (nxt (wp_seq (reg ?_))))))
 refine rP 0 25 (.slice Ac1 (n - at_) (c - at_)) ?_
 obtain ⟨q1, o1, hq_, _⟩ := hbc1.2 (by omega)
 subst hq_
 obtain ⟨s0, r0, hsr⟩ := Mur.drop_cons (p := at_) (b := b) (by omega)
 rw [hsr] at hbc1
 have hr0 := hbc1.1
 rw [List.length_cons] at hr0
 have hs0 := s0.toNat_lt
 refine rQ 1 26 (pt q1 (o1 + 0 * 1)) rfl rfl (index_sl 22 5 (.tmp 25) (.const (.int .i64 0)) rfl Tryd.underlying22 1 (by kernel_rfl) q1 o1 (n - at_) (c - at_) 0 .i64 (by kernel_rfl) (by kernel_rfl) (by omega)) ?_
 refine rQ 2 27 _ rfl rfl (ld 5 26 q1 (o1 + 0 * 1) (.int .u8 ((s0.toNat : Nat) : Int)) (show _ from byt_cell hbc1 0 (by omega))) ?_
 refine rQ 3 28 (.int .i64 ((s0.toNat : Nat) : Int)) rfl rfl (conv_int 5 3 (.tmp 27) rfl (by kernel_rfl) .i64 Tryd.underlying3 .u8 ((s0.toNat : Nat) : Int) (by kernel_rfl) (Mur.i64_nat (by omega))) ?_
 refine rP 4 8 (.int .i64 ((s0.toNat : Nat) : Int)) ?_
 refine rEnd 5 rfl (nxt (wp_seq (wp_seq (reg ?_))))
 refine rP 0 29 (.slice (some ⟨q1, o1, none⟩) (n - at_) (c - at_)) ?_
 obtain ⟨Ac2, hAc2⟩ : ∃ x_, x_ = Mur.cutA (some ⟨q1, o1, none⟩) (c - at_) 1 := ⟨_, rfl⟩
 have hbc2 : Byt w Ac2 (n - at_ - 1) r0 := by rw [hAc2]; exact byt_from hbc1 1 (by omega) (by omega)
 refine rQ 1 30 (.slice Ac2 (n - at_ - 1) (c - at_ - 1)) rfl rfl (by rw [hAc2]; exact run_op_from 22 (.tmp 29) (.const (.int .i64 1)) rfl 5 Tryd.underlying22 (by kernel_rfl) (some ⟨q1, o1, none⟩) (n - at_) (c - at_) 1 (by kernel_rfl) (by kernel_rfl) (by omega) (by omega)) ?_
 refine rP 2 7 (.slice Ac2 (n - at_ - 1) (c - at_ - 1)) ?_
 refine rEnd 3 rfl (nxt (wp_block (wp_seq (wp_seq (reg ?_)))))
 refine rP 0 32 (.int .i64 ((s0.toNat : Nat) : Int)) ?_
 by_cases hx2 : ((s0.toNat : Nat) : Int) > (8 : Int)
 ·refine rQ 1 33 _ rfl rfl (qboolT (b := decide (((s0.toNat : Nat) : Int) > (8 : Int))) (decide_eq_true (by first | exact hx2 | omega))) ?_
  refine rP 2 31 (.bool true) ?_
  refine rEnd 3 rfl (nxt (wp_cond_true (by kernel_rfl) (wp_skip (nxt (wp_cond_true (by kernel_rfl) (wp_seq (reg ?_)))))))
  refine rP 0 4 (.int .u64 0) ?_
  refine rP 1 5 (.int .i64 0) ?_
  refine rP 2 6 (.int .i64 5) ?_
  refine rEnd 3 rfl (nxt (wp_ret (inR (thR ?_))))
  refine rt (.tuple #[.int .u64 0, .int .i64 0, .int .i64 5]) ?_
  exact ⟨0, 0, _, rfl, .inr ⟨by decide, rfl, rfl, (by first | exact readN_big hsr (by omega) | exact readN_zero hsr (by omega) (by omega) (by omega))⟩, rfl⟩
 refine rQ 1 33 _ rfl rfl (qboolF (b := decide (((s0.toNat : Nat) : Int) > (8 : Int))) (decide_eq_false (by first | exact hx2 | omega))) ?_
 refine rP 2 31 (.bool false) ?_
 refine rEnd 3 rfl (nxt (wp_cond_false (by kernel_rfl) (reg ?_)))
 refine rP 0 34 (.int .i64 ((s0.toNat : Nat) : Int)) ?_
 by_cases hx3 : ((s0.toNat : Nat) : Int) > (0 : Int)
 ·refine rQ 1 35 _ rfl rfl (qboolT (b := decide (((s0.toNat : Nat) : Int) > (0 : Int))) (decide_eq_true (by first | exact hx3 | omega))) ?_
  refine rP 2 36 (.bool true) ?_
  refine rP 3 37 (.slice Ac2 (n - at_ - 1) (c - at_ - 1)) ?_
  refine rP 4 38 (.int .i64 ((n - at_ - 1 : Nat) : Int)) ?_
  by_cases hx4 : ((n - at_ - 1 : Nat) : Int) > (0 : Int)
  ·refine rQ 5 39 _ rfl rfl (qboolT (b := decide (((n - at_ - 1 : Nat) : Int) > (0 : Int))) (decide_eq_true (by first | exact hx4 | omega))) ?_
   refine rP 6 40 (.bool true) ?_
   refine rP 7 41 (.bool true) ?_
   refine rP 8 42 (.slice Ac2 (n - at_ - 1) (c - at_ - 1)) ?_
   obtain ⟨q2, o2, hq_, _⟩ := hbc2.2 (by omega)
   subst hq_
   refine rQ 9 43 (pt q2 (o2 + 0 * 1)) rfl rfl (index_sl 22 5 (.tmp 42) (.const (.int .i64 0)) rfl Tryd.underlying22 1 (by kernel_rfl) q2 o2 (n - at_ - 1) (c - at_ - 1) 0 .i64 (by kernel_rfl) (by kernel_rfl) (by omega)) ?_
   refine rQ 10 44 _ rfl rfl (ld 5 43 q2 (o2 + 0 * 1) (.int .u8 (((r0.getD 0 0).toNat : Nat) : Int)) (byt_cell hbc2 0 (by omega))) ?_
   by_cases hx5 : (((r0.getD 0 0).toNat : Nat) : Int) = (0 : Int)
   ·refine rQ 11 45 _ rfl rfl (qboolT (b := ((((r0.getD 0 0).toNat : Nat) : Int) == (0 : Int))) (beq_iff_eq.2 (by first | exact hx5 | omega))) ?_
    refine rP 12 46 (.bool true) ?_
    refine rP 13 31 (.bool true) ?_
    refine rEnd 14 rfl (nxt (wp_cond_true (by kernel_rfl) (wp_seq (reg ?_))))
    refine rP 0 4 (.int .u64 0) ?_
    refine rP 1 5 (.int .i64 0) ?_
    refine rP 2 6 (.int .i64 5) ?_
    refine rEnd 3 rfl (nxt (wp_ret (inR (thR ?_))))
    refine rt (.tuple #[.int .u64 0, .int .i64 0, .int .i64 5]) ?_
    exact ⟨0, 0, _, rfl, .inr ⟨by decide, rfl, rfl, (by first | exact readN_big hsr (by omega) | exact readN_zero hsr (by omega) (by omega) (by omega))⟩, rfl⟩
   refine rQ 11 45 _ rfl rfl (qboolF (b := ((((r0.getD 0 0).toNat : Nat) : Int) == (0 : Int))) (beq_eq_false_iff_ne.2 (by first | exact hx5 | omega))) ?_
   refine rP 12 46 (.bool false) ?_
   refine rP 13 31 (.bool false) ?_
   refine rEnd 14 rfl (nxt (wp_cond_false (by kernel_rfl) (wp_seq (reg ?_))))
   refine rP 0 48 (.slice (some ⟨q2, o2, none⟩) (n - at_ - 1) (c - at_ - 1)) ?_
   refine rP 1 49 (.int .i64 ((n - at_ - 1 : Nat) : Int)) ?_
   refine rP 2 50 (.int .i64 ((s0.toNat : Nat) : Int)) ?_
   by_cases hx6 : ((n - at_ - 1 : Nat) : Int) < ((s0.toNat : Nat) : Int)
   ·refine rQ 3 51 _ rfl rfl (qboolT (b := decide (((n - at_ - 1 : Nat) : Int) < ((s0.toNat : Nat) : Int))) (decide_eq_true (by first | exact hx6 | omega))) ?_
    refine rP 4 47 (.bool true) ?_
    refine rEnd 5 rfl (nxt (wp_cond_true (by kernel_rfl) (wp_seq (reg ?_))))
    refine rP 0 4 (.int .u64 0) ?_
    refine rP 1 5 (.int .i64 0) ?_
    refine rP 2 6 (.int .i64 4) ?_
    refine rEnd 3 rfl (nxt (wp_ret (inR (thR ?_))))
    refine rt (.tuple #[.int .u64 0, .int .i64 0, .int .i64 4]) ?_
    exact ⟨0, 0, _, rfl, .inr ⟨by decide, rfl, rfl, (by first | exact readN_nil (by omega) | exact readN_short hsr (by omega))⟩, rfl⟩
   refine rQ 3 51 _ rfl rfl (qboolF (b := decide (((n - at_ - 1 : Nat) : Int) < ((s0.toNat : Nat) : Int))) (decide_eq_false (by first | exact hx6 | omega))) ?_
   refine rP 4 47 (.bool false) ?_
   refine rEnd 5 rfl (nxt (wp_cond_false (by kernel_rfl) (wp_skip (inN (nxt (wp_seq (wp_seq (reg ?_))))))))
   refine rP 0 52 (.slice (some ⟨q2, o2, none⟩) (n - at_ - 1) (c - at_ - 1)) ?_
   refine rP 1 53 (.int .i64 ((s0.toNat : Nat) : Int)) ?_
   obtain ⟨Ac3, hAc3⟩ : ∃ x_, x_ = Mur.cutA (some ⟨q2, o2, none⟩) (c - at_ - 1) 0 := ⟨_, rfl⟩
   have hbc3 : Byt w Ac3 s0.toNat (r0.take s0.toNat) := by rw [hAc3]; exact byt_to hbc2 s0.toNat (by omega) (by omega)
   refine rQ 2 54 (.slice Ac3 s0.toNat (c - at_ - 1)) rfl rfl (by rw [hAc3]; exact run_op_cut_to 22 (.tmp 52) (.tmp 53) rfl 5 Tryd.underlying22 (by kernel_rfl) (some ⟨q2, o2, none⟩) (n - at_ - 1) (c - at_ - 1) s0.toNat (by kernel_rfl) (by kernel_rfl) (by omega) (by omega)) ?_
   obtain ⟨L3, hL3⟩ : ∃ x_, x_ = r0.take s0.toNat := ⟨_, rfl⟩
   have hb3 := hbc3
   rw [← hL3] at hb3
   have hl3 := hb3.1
   refine rP 3 55 (.int .i64 ((s0.toNat : Nat) : Int)) ?_
   refine rP 4 56 (.int .i64 0) ?_
   refine rEnd 5 rfl (nxt (wp_block ?_))
   refine Wk.loop (fun m_ a wr => ∃ (i : Nat), m_ = s0.toNat - i ∧ a = UintW_F1 a.tmps (.int .i64 ((at_ : Nat) : Int)) (.int .u64 ((Mur.beN (L3.take i) : Nat) : Int)) (.int .i64 ((s0.toNat : Nat) : Int)) (.slice Ac3 s0.toNat (c - at_ - 1)) (.int .i64 ((s0.toNat : Nat) : Int)) (.int .i64 ((i : Nat) : Int)) ∧ i ≤ s0.toNat ∧ wr = w) (s0.toNat - 0) ?_ ?_
   ·refine ⟨0, rfl, by kernel_rfl, (by omega), rfl⟩
   rintro mm1 aa1 W1 ⟨i, hmm1, hF1, hi, hw⟩
   generalize aa1.tmps = bb1 at hF1
   subst hF1
   subst hw
   by_cases hlt : i < s0.toNat
   ·obtain ⟨q3, o3, hq_, _⟩ := hb3.2 (by omega)
    subst hq_
    have h56 : Mur.beN (L3.take i) < 72057594037927936 := beN_lt56 (by omega)
    have h256 := (L3.getD i 0).toNat_lt
    refine wp_seq (reg ?_)
    refine rQ 0 57 _ rfl rfl (qboolT (b := decide (((i : Nat) : Int) < ((s0.toNat : Nat) : Int))) (decide_eq_true (by omega))) ?_
    refine rEnd 1 rfl (nxt (wp_seq (wp_cond_true (by kernel_rfl) (wp_skip (nxt (wp_seq (wp_block (wp_seq (reg ?_)))))))))
    refine rQ 0 58 (pt q3 (o3 + i * 1)) rfl rfl (index_sl 22 5 (.tmp 54) (.tmp 56) rfl Tryd.underlying22 1 (by kernel_rfl) q3 o3 s0.toNat (c - at_ - 1) i .i64 (by kernel_rfl) (by kernel_rfl) (by omega)) ?_
    refine rQ 1 59 _ rfl rfl (ld 5 58 q3 (o3 + i * 1) (.int .u8 (((L3.getD i 0).toNat : Nat) : Int)) (byt_cell hb3 i (by omega))) ?_
    refine rP 2 10 (.int .u8 (((L3.getD i 0).toNat : Nat) : Int)) ?_
    refine rEnd 3 rfl (nxt (reg ?_))
    refine rP 0 60 (.int .u64 ((Mur.beN (L3.take i) : Nat) : Int)) ?_
    refine rQ 1 61 (.int .u64 (((Mur.beN (L3.take i)) * 256 : Nat) : Int)) rfl rfl (shl8_64 24 139 (.tmp 60) (.const (.int .u64 8)) rfl (Mur.beN (L3.take i)) .u64 (by kernel_rfl) (by kernel_rfl) (by omega)) ?_
    refine rP 2 62 (.int .u8 (((L3.getD i 0).toNat : Nat) : Int)) ?_
    refine rQ 3 63 (.int .u64 (((L3.getD i 0).toNat : Nat) : Int)) rfl rfl (conv_int 5 24 (.tmp 62) rfl (by kernel_rfl) .u64 Tryd.underlying24 .u8 (((L3.getD i 0).toNat : Nat) : Int) (by kernel_rfl) (u64_nat (by omega))) ?_
    refine rQ 4 64 (.int .u64 ((Mur.beN (L3.take (i + 1)) : Nat) : Int)) rfl rfl (add_u64 24 24 (.tmp 61) (.tmp 63) rfl (Mur.beN (L3.take i) * 256) (L3.getD i 0).toNat (Mur.beN (L3.take (i + 1))) (by kernel_rfl) (by kernel_rfl) (beN_more (by omega)) (beN_lt64 (by rw [List.length_take]; omega))) ?_
    refine rP 5 4 (.int .u64 ((Mur.beN (L3.take (i + 1)) : Nat) : Int)) ?_
    refine rEnd 6 rfl (inN (nxt (reg ?_)))
    refine rQ 0 65 _ rfl rfl (qint64 (n := ((i : Nat) : Int) + 1) (z := ((i + 1 : Nat) : Int)) (by omega) (by omega) (by omega)) ?_
    refine rP 1 56 (.int .i64 ((i + 1 : Nat) : Int)) ?_
    refine rEnd 2 rfl (nxt ?_)
    refine ⟨_, ?_, i + 1, rfl, by kernel_rfl, (by omega), rfl⟩
    omega
   have hL4 : L3.take i = r0.take s0.toNat := by rw [List.take_of_length_le (by omega), hL3]
   have h64 := beN_lt64 (l := L3.take i) (by rw [List.length_take]; omega)
   refine wp_seq (reg ?_)
   refine rQ 0 57 _ rfl rfl (qboolF (b := decide (((i : Nat) : Int) < ((s0.toNat : Nat) : Int))) (decide_eq_false (by omega))) ?_
   refine rEnd 1 rfl (nxt (wp_seq (wp_cond_false (by kernel_rfl) (wp_exit (thX (thX (inX (nxt (wp_seq (reg ?_))))))))))
   refine rP 0 66 (.int .u64 ((Mur.beN (L3.take i) : Nat) : Int)) ?_
   refine rP 1 67 (.int .i64 ((at_ : Nat) : Int)) ?_
   refine rQ 2 68 _ rfl rfl (qint64 (n := ((at_ : Nat) : Int) + 1) (z := ((at_ + 1 : Nat) : Int)) (by omega) (by omega) (by omega)) ?_
   refine rP 3 69 (.int .i64 ((s0.toNat : Nat) : Int)) ?_
   refine rQ 4 70 _ rfl rfl (qint64 (n := ((at_ + 1 : Nat) : Int) + ((s0.toNat : Nat) : Int)) (z := ((at_ + 1 + s0.toNat : Nat) : Int)) (by omega) (by omega) (by omega)) ?_
   refine rP 5 4 (.int .u64 ((Mur.beN (L3.take i) : Nat) : Int)) ?_
   refine rP 6 5 (.int .i64 ((at_ + 1 + s0.toNat : Nat) : Int)) ?_
   refine rP 7 6 (.int .i64 0) ?_
   refine rEnd 8 rfl (nxt (wp_ret ?_))
   have hok := readN_ok hsr (by omega) (by omega) (by omega)
   rw [← hL4] at hok
   refine rt (.tuple #[.int .u64 ((Mur.beN (L3.take i) : Nat) : Int), .int .i64 ((at_ + 1 + s0.toNat : Nat) : Int), .int .i64 0]) ?_
   exact ⟨_, _, _, rfl, .inl ⟨rfl, by omega, ⟨by omega, by omega⟩, hok⟩, rfl⟩
  refine rQ 5 39 _ rfl rfl (qboolF (b := decide (((n - at_ - 1 : Nat) : Int) > (0 : Int))) (decide_eq_false (by first | exact hx4 | omega))) ?_
  refine rP 6 40 (.bool false) ?_
  refine rP 7 41 (.bool false) ?_
  refine rZ 8 42 ?_
  refine rZ 9 43 ?_
  refine rZ 10 44 ?_
  refine rZ 11 45 ?_
  refine rP 12 46 (.bool false) ?_
  refine rP 13 31 (.bool false) ?_
  refine rEnd 14 rfl (nxt (wp_cond_false (by kernel_rfl) (wp_seq (reg ?_))))
  refine rP 0 48 (.slice Ac2 (n - at_ - 1) (c - at_ - 1)) ?_
  refine rP 1 49 (.int .i64 ((n - at_ - 1 : Nat) : Int)) ?_
  refine rP 2 50 (.int .i64 ((s0.toNat : Nat) : Int)) ?_
  by_cases hx7 : ((n - at_ - 1 : Nat) : Int) < ((s0.toNat : Nat) : Int)
  ·refine rQ 3 51 _ rfl rfl (qboolT (b := decide (((n - at_ - 1 : Nat) : Int) < ((s0.toNat : Nat) : Int))) (decide_eq_true (by first | exact hx7 | omega))) ?_
   refine rP 4 47 (.bool true) ?_
   refine rEnd 5 rfl (nxt (wp_cond_true (by kernel_rfl) (wp_seq (reg ?_))))
   refine rP 0 4 (.int .u64 0) ?_
   refine rP 1 5 (.int .i64 0) ?_
   refine rP 2 6 (.int .i64 4) ?_
   refine rEnd 3 rfl (nxt (wp_ret (inR (thR ?_))))
   refine rt (.tuple #[.int .u64 0, .int .i64 0, .int .i64 4]) ?_
   exact ⟨0, 0, _, rfl, .inr ⟨by decide, rfl, rfl, (by first | exact readN_nil (by omega) | exact readN_short hsr (by omega))⟩, rfl⟩
  refine rQ 3 51 _ rfl rfl (qboolF (b := decide (((n - at_ - 1 : Nat) : Int) < ((s0.toNat : Nat) : Int))) (decide_eq_false (by first | exact hx7 | omega))) ?_
  refine rP 4 47 (.bool false) ?_
  refine rEnd 5 rfl (nxt (wp_cond_false (by kernel_rfl) (wp_skip (inN (nxt (wp_seq (wp_seq (reg ?_))))))))
  refine rP 0 52 (.slice Ac2 (n - at_ - 1) (c - at_ - 1)) ?_
  refine rP 1 53 (.int .i64 ((s0.toNat : Nat) : Int)) ?_
  obtain ⟨Ac4, hAc4⟩ : ∃ x_, x_ = Mur.cutA Ac2 (c - at_ - 1) 0 := ⟨_, rfl⟩
  have hbc4 : Byt w Ac4 s0.toNat (r0.take s0.toNat) := by rw [hAc4]; exact byt_to hbc2 s0.toNat (by omega) (by omega)
  refine rQ 2 54 (.slice Ac4 s0.toNat (c - at_ - 1)) rfl rfl (by rw [hAc4]; exact run_op_cut_to 22 (.tmp 52) (.tmp 53) rfl 5 Tryd.underlying22 (by kernel_rfl) Ac2 (n - at_ - 1) (c - at_ - 1) s0.toNat (by kernel_rfl) (by kernel_rfl) (by omega) (by omega)) ?_
  obtain ⟨L3, hL3⟩ : ∃ x_, x_ = r0.take s0.toNat := ⟨_, rfl⟩
  have hb3 := hbc4
  rw [← hL3] at hb3
  have hl3 := hb3.1
  refine rP 3 55 (.int .i64 ((s0.toNat : Nat) : Int)) ?_
  refine rP 4 56 (.int .i64 0) ?_
  refine rEnd 5 rfl (nxt (wp_block ?_))
  refine Wk.loop (fun m_ a wr => ∃ (i : Nat), m_ = s0.toNat - i ∧ a = UintW_F2 a.tmps (.int .i64 ((at_ : Nat) : Int)) (.int .u64 ((Mur.beN (L3.take i) : Nat) : Int)) (.int .i64 ((s0.toNat : Nat) : Int)) (.slice Ac4 s0.toNat (c - at_ - 1)) (.int .i64 ((s0.toNat : Nat) : Int)) (.int .i64 ((i : Nat) : Int)) ∧ i ≤ s0.toNat ∧ wr = w) (s0.toNat - 0) ?_ ?_
  ·refine ⟨0, rfl, by kernel_rfl, (by omega), rfl⟩
  rintro mm2 aa2 W2 ⟨i, hmm2, hF2, hi, hw⟩
  generalize aa2.tmps = bb2 at hF2
  subst hF2
  subst hw
  by_cases hlt : i < s0.toNat
  ·obtain ⟨q3, o3, hq_, _⟩ := hb3.2 (by omega)
   subst hq_
   have h56 : Mur.beN (L3.take i) < 72057594037927936 := beN_lt56 (by omega)
   have h256 := (L3.getD i 0).toNat_lt
   refine wp_seq (reg ?_)
   refine rQ 0 57 _ rfl rfl (qboolT (b := decide (((i : Nat) : Int) < ((s0.toNat : Nat) : Int))) (decide_eq_true (by omega))) ?_
   refine rEnd 1 rfl (nxt (wp_seq (wp_cond_true (by kernel_rfl) (wp_skip (nxt (wp_seq (wp_block (wp_seq (reg ?_)))))))))
   refine rQ 0 58 (pt q3 (o3 + i * 1)) rfl rfl (index_sl 22 5 (.tmp 54) (.tmp 56) rfl Tryd.underlying22 1 (by kernel_rfl) q3 o3 s0.toNat (c - at_ - 1) i .i64 (by kernel_rfl) (by kernel_rfl) (by omega)) ?_
   refine rQ 1 59 _ rfl rfl (ld 5 58 q3 (o3 + i * 1) (.int .u8 (((L3.getD i 0).toNat : Nat) : Int)) (byt_cell hb3 i (by omega))) ?_
   refine rP 2 10 (.int .u8 (((L3.getD i 0).toNat : Nat) : Int)) ?_
   refine rEnd 3 rfl (nxt (reg ?_))
   refine rP 0 60 (.int .u64 ((Mur.beN (L3.take i) : Nat) : Int)) ?_
   refine rQ 1 61 (.int .u64 (((Mur.beN (L3.take i)) * 256 : Nat) : Int)) rfl rfl (shl8_64 24 139 (.tmp 60) (.const (.int .u64 8)) rfl (Mur.beN (L3.take i)) .u64 (by kernel_rfl) (by kernel_rfl) (by omega)) ?_
   refine rP 2 62 (.int .u8 (((L3.getD i 0).toNat : Nat) : Int)) ?_
   refine rQ 3 63 (.int .u64 (((L3.getD i 0).toNat : Nat) : Int)) rfl rfl (conv_int 5 24 (.tmp 62) rfl (by kernel_rfl) .u64 Tryd.underlying24 .u8 (((L3.getD i 0).toNat : Nat) : Int) (by kernel_rfl) (u64_nat (by omega))) ?_
   refine rQ 4 64 (.int .u64 ((Mur.beN (L3.take (i + 1)) : Nat) : Int)) rfl rfl (add_u64 24 24 (.tmp 61) (.tmp 63) rfl (Mur.beN (L3.take i) * 256) (L3.getD i 0).toNat (Mur.beN (L3.take (i + 1))) (by kernel_rfl) (by kernel_rfl) (beN_more (by omega)) (beN_lt64 (by rw [List.length_take]; omega))) ?_
   refine rP 5 4 (.int .u64 ((Mur.beN (L3.take (i + 1)) : Nat) : Int)) ?_
   refine rEnd 6 rfl (inN (nxt (reg ?_)))
   refine rQ 0 65 _ rfl rfl (qint64 (n := ((i : Nat) : Int) + 1) (z := ((i + 1 : Nat) : Int)) (by omega) (by omega) (by omega)) ?_
   refine rP 1 56 (.int .i64 ((i + 1 : Nat) : Int)) ?_
   refine rEnd 2 rfl (nxt ?_)
   refine ⟨_, ?_, i + 1, rfl, by kernel_rfl, (by omega), rfl⟩
   omega
  have hL4 : L3.take i = r0.take s0.toNat := by rw [List.take_of_length_le (by omega), hL3]
  have h64 := beN_lt64 (l := L3.take i) (by rw [List.length_take]; omega)
  refine wp_seq (reg ?_)
  refine rQ 0 57 _ rfl rfl (qboolF (b := decide (((i : Nat) : Int) < ((s0.toNat : Nat) : Int))) (decide_eq_false (by omega))) ?_
  refine rEnd 1 rfl (nxt (wp_seq (wp_cond_false (by kernel_rfl) (wp_exit (thX (thX (inX (nxt (wp_seq (reg ?_))))))))))
  refine rP 0 66 (.int .u64 ((Mur.beN (L3.take i) : Nat) : Int)) ?_
  refine rP 1 67 (.int .i64 ((at_ : Nat) : Int)) ?_
  refine rQ 2 68 _ rfl rfl (qint64 (n := ((at_ : Nat) : Int) + 1) (z := ((at_ + 1 : Nat) : Int)) (by omega) (by omega) (by omega)) ?_
  refine rP 3 69 (.int .i64 ((s0.toNat : Nat) : Int)) ?_
  refine rQ 4 70 _ rfl rfl (qint64 (n := ((at_ + 1 : Nat) : Int) + ((s0.toNat : Nat) : Int)) (z := ((at_ + 1 + s0.toNat : Nat) : Int)) (by omega) (by omega) (by omega)) ?_
  refine rP 5 4 (.int .u64 ((Mur.beN (L3.take i) : Nat) : Int)) ?_
  refine rP 6 5 (.int .i64 ((at_ + 1 + s0.toNat : Nat) : Int)) ?_
  refine rP 7 6 (.int .i64 0) ?_
  refine rEnd 8 rfl (nxt (wp_ret ?_))
  have hok := readN_ok hsr (by omega) (by omega) (by omega)
  rw [← hL4] at hok
  refine rt (.tuple #[.int .u64 ((Mur.beN (L3.take i) : Nat) : Int), .int .i64 ((at_ + 1 + s0.toNat : Nat) : Int), .int .i64 0]) ?_
  exact ⟨_, _, _, rfl, .inl ⟨rfl, by omega, ⟨by omega, by omega⟩, hok⟩, rfl⟩
 refine rQ 1 35 _ rfl rfl (qboolF (b := decide (((s0.toNat : Nat) : Int) > (0 : Int))) (decide_eq_false (by first | exact hx3 | omega))) ?_
 refine rP 2 36 (.bool false) ?_
 refine rZ 3 37 ?_
 refine rZ 4 38 ?_
 refine rZ 5 39 ?_
 refine rP 6 40 (.bool false) ?_
 refine rP 7 41 (.bool false) ?_
 refine rZ 8 42 ?_
 refine rZ 9 43 ?_
 refine rZ 10 44 ?_
 refine rZ 11 45 ?_
 refine rP 12 46 (.bool false) ?_
 refine rP 13 31 (.bool false) ?_
 refine rEnd 14 rfl (nxt (wp_cond_false (by kernel_rfl) (wp_seq (reg ?_))))
 refine rP 0 48 (.slice Ac2 (n - at_ - 1) (c - at_ - 1)) ?_
 refine rP 1 49 (.int .i64 ((n - at_ - 1 : Nat) : Int)) ?_
 refine rP 2 50 (.int .i64 ((s0.toNat : Nat) : Int)) ?_
 by_cases hx8 : ((n - at_ - 1 : Nat) : Int) < ((s0.toNat : Nat) : Int)
 ·refine rQ 3 51 _ rfl rfl (qboolT (b := decide (((n - at_ - 1 : Nat) : Int) < ((s0.toNat : Nat) : Int))) (decide_eq_true (by first | exact hx8 | omega))) ?_
  refine rP 4 47 (.bool true) ?_
  refine rEnd 5 rfl (nxt (wp_cond_true (by kernel_rfl) (wp_seq (reg ?_))))
  refine rP 0 4 (.int .u64 0) ?_
  refine rP 1 5 (.int .i64 0) ?_
  refine rP 2 6 (.int .i64 4) ?_
  refine rEnd 3 rfl (nxt (wp_ret (inR (thR ?_))))
  refine rt (.tuple #[.int .u64 0, .int .i64 0, .int .i64 4]) ?_
  exact ⟨0, 0, _, rfl, .inr ⟨by decide, rfl, rfl, (by first | exact readN_nil (by omega) | exact readN_short hsr (by omega))⟩, rfl⟩
 refine rQ 3 51 _ rfl rfl (qboolF (b := decide (((n - at_ - 1 : Nat) : Int) < ((s0.toNat : Nat) : Int))) (decide_eq_false (by first | exact hx8 | omega))) ?_
 refine rP 4 47 (.bool false) ?_
 refine rEnd 5 rfl (nxt (wp_cond_false (by kernel_rfl) (wp_skip (inN (nxt (wp_seq (wp_seq (reg ?_))))))))
 refine rP 0 52 (.slice Ac2 (n - at_ - 1) (c - at_ - 1)) ?_
 refine rP 1 53 (.int .i64 ((s0.toNat : Nat) : Int)) ?_
 obtain ⟨Ac5, hAc5⟩ : ∃ x_, x_ = Mur.cutA Ac2 (c - at_ - 1) 0 := ⟨_, rfl⟩
 have hbc5 : Byt w Ac5 s0.toNat (r0.take s0.toNat) := by rw [hAc5]; exact byt_to hbc2 s0.toNat (by omega) (by omega)
 refine rQ 2 54 (.slice Ac5 s0.toNat (c - at_ - 1)) rfl rfl (by rw [hAc5]; exact run_op_cut_to 22 (.tmp 52) (.tmp 53) rfl 5 Tryd.underlying22 (by kernel_rfl) Ac2 (n - at_ - 1) (c - at_ - 1) s0.toNat (by kernel_rfl) (by kernel_rfl) (by omega) (by omega)) ?_
 obtain ⟨L3, hL3⟩ : ∃ x_, x_ = r0.take s0.toNat := ⟨_, rfl⟩
 have hb3 := hbc5
 rw [← hL3] at hb3
 have hl3 := hb3.1
 refine rP 3 55 (.int .i64 ((s0.toNat : Nat) : Int)) ?_
 refine rP 4 56 (.int .i64 0) ?_
 refine rEnd 5 rfl (nxt (wp_block ?_))
 refine Wk.loop (fun m_ a wr => ∃ (i : Nat), m_ = s0.toNat - i ∧ a = UintW_F3 a.tmps (.int .i64 ((at_ : Nat) : Int)) (.int .u64 ((Mur.beN (L3.take i) : Nat) : Int)) (.int .i64 ((s0.toNat : Nat) : Int)) (.slice Ac5 s0.toNat (c - at_ - 1)) (.int .i64 ((s0.toNat : Nat) : Int)) (.int .i64 ((i : Nat) : Int)) ∧ i ≤ s0.toNat ∧ wr = w) (s0.toNat - 0) ?_ ?_
 ·refine ⟨0, rfl, by kernel_rfl, (by omega), rfl⟩
 rintro mm3 aa3 W3 ⟨i, hmm3, hF3, hi, hw⟩
 generalize aa3.tmps = bb3 at hF3
 subst hF3
 subst hw
 by_cases hlt : i < s0.toNat
 ·obtain ⟨q3, o3, hq_, _⟩ := hb3.2 (by omega)
  subst hq_
  have h56 : Mur.beN (L3.take i) < 72057594037927936 := beN_lt56 (by omega)
  have h256 := (L3.getD i 0).toNat_lt
  refine wp_seq (reg ?_)
  refine rQ 0 57 _ rfl rfl (qboolT (b := decide (((i : Nat) : Int) < ((s0.toNat : Nat) : Int))) (decide_eq_true (by omega))) ?_
  refine rEnd 1 rfl (nxt (wp_seq (wp_cond_true (by kernel_rfl) (wp_skip (nxt (wp_seq (wp_block (wp_seq (reg ?_)))))))))
  refine rQ 0 58 (pt q3 (o3 + i * 1)) rfl rfl (index_sl 22 5 (.tmp 54) (.tmp 56) rfl Tryd.underlying22 1 (by kernel_rfl) q3 o3 s0.toNat (c - at_ - 1) i .i64 (by kernel_rfl) (by kernel_rfl) (by omega)) ?_
  refine rQ 1 59 _ rfl rfl (ld 5 58 q3 (o3 + i * 1) (.int .u8 (((L3.getD i 0).toNat : Nat) : Int)) (byt_cell hb3 i (by omega))) ?_
  refine rP 2 10 (.int .u8 (((L3.getD i 0).toNat : Nat) : Int)) ?_
  refine rEnd 3 rfl (nxt (reg ?_))
  refine rP 0 60 (.int .u64 ((Mur.beN (L3.take i) : Nat) : Int)) ?_
  refine rQ 1 61 (.int .u64 (((Mur.beN (L3.take i)) * 256 : Nat) : Int)) rfl rfl (shl8_64 24 139 (.tmp 60) (.const (.int .u64 8)) rfl (Mur.beN (L3.take i)) .u64 (by kernel_rfl) (by kernel_rfl) (by omega)) ?_
  refine rP 2 62 (.int .u8 (((L3.getD i 0).toNat : Nat) : Int)) ?_
  refine rQ 3 63 (.int .u64 (((L3.getD i 0).toNat : Nat) : Int)) rfl rfl (conv_int 5 24 (.tmp 62) rfl (by kernel_rfl) .u64 Tryd.underlying24 .u8 (((L3.getD i 0).toNat : Nat) : Int) (by kernel_rfl) (u64_nat (by omega))) ?_
  refine rQ 4 64 (.int .u64 ((Mur.beN (L3.take (i + 1)) : Nat) : Int)) rfl rfl (add_u64 24 24 (.tmp 61) (.tmp 63) rfl (Mur.beN (L3.take i) * 256) (L3.getD i 0).toNat (Mur.beN (L3.take (i + 1))) (by kernel_rfl) (by kernel_rfl) (beN_more (by omega)) (beN_lt64 (by rw [List.length_take]; omega))) ?_
  refine rP 5 4 (.int .u64 ((Mur.beN (L3.take (i + 1)) : Nat) : Int)) ?_
  refine rEnd 6 rfl (inN (nxt (reg ?_)))
  refine rQ 0 65 _ rfl rfl (qint64 (n := ((i : Nat) : Int) + 1) (z := ((i + 1 : Nat) : Int)) (by omega) (by omega) (by omega)) ?_
  refine rP 1 56 (.int .i64 ((i + 1 : Nat) : Int)) ?_
  refine rEnd 2 rfl (nxt ?_)
  refine ⟨_, ?_, i + 1, rfl, by kernel_rfl, (by omega), rfl⟩
  omega
 have hL4 : L3.take i = r0.take s0.toNat := by rw [List.take_of_length_le (by omega), hL3]
 have h64 := beN_lt64 (l := L3.take i) (by rw [List.length_take]; omega)
 refine wp_seq (reg ?_)
 refine rQ 0 57 _ rfl rfl (qboolF (b := decide (((i : Nat) : Int) < ((s0.toNat : Nat) : Int))) (decide_eq_false (by omega))) ?_
 refine rEnd 1 rfl (nxt (wp_seq (wp_cond_false (by kernel_rfl) (wp_exit (thX (thX (inX (nxt (wp_seq (reg ?_))))))))))
 refine rP 0 66 (.int .u64 ((Mur.beN (L3.take i) : Nat) : Int)) ?_
 refine rP 1 67 (.int .i64 ((at_ : Nat) : Int)) ?_
 refine rQ 2 68 _ rfl rfl (qint64 (n := ((at_ : Nat) : Int) + 1) (z := ((at_ + 1 : Nat) : Int)) (by omega) (by omega) (by omega)) ?_
 refine rP 3 69 (.int .i64 ((s0.toNat : Nat) : Int)) ?_
 refine rQ 4 70 _ rfl rfl (qint64 (n := ((at_ + 1 : Nat) : Int) + ((s0.toNat : Nat) : Int)) (z := ((at_ + 1 + s0.toNat : Nat) : Int)) (by omega) (by omega) (by omega)) ?_
 refine rP 5 4 (.int .u64 ((Mur.beN (L3.take i) : Nat) : Int)) ?_
 refine rP 6 5 (.int .i64 ((at_ + 1 + s0.toNat : Nat) : Int)) ?_
 refine rP 7 6 (.int .i64 0) ?_
 refine rEnd 8 rfl (nxt (wp_ret ?_))
 have hok := readN_ok hsr (by omega) (by omega) (by omega)
 rw [← hL4] at hok
 refine rt (.tuple #[.int .u64 ((Mur.beN (L3.take i) : Nat) : Int), .int .i64 ((at_ + 1 + s0.toNat : Nat) : Int), .int .i64 0]) ?_
 exact ⟨_, _, _, rfl, .inl ⟨rfl, by omega, ⟨by omega, by omega⟩, hok⟩, rfl⟩
end Go.Proofs.YtgbadghjnpbiaaaDoor
namespace Go.Proofs.YtgbadghjnpbiaaaDoor
open Go.RowKit Wk
open Mur (b8s Byt Own8 Seg Segs flat cutA attC Att SlA OwnA rowA msgC formN formN_len own8_low u64n conv_u64n u64n_lt byt_chgp)
set_option maxRecDepth 100000
set_option maxHeartbeats 4000000
theorem Wuint1_any (g base : Nat) (A : Option Addr) (n c : Nat) (b : List UInt8) (q N1 : Nat) (w : World) (hg : w.heap[g]? = some (.cells #[.slice A n c] 97 (0, 0))) (hbs : g < base ∧ base ≤ w.heap.size) (ho : Own8 w base 5 A n c b) (hn : n ≤ 5000000) (hq : w.heap[q]? = some (.cells #[.int .u64 ((N1 : Nat) : Int)] 24 (0, 0))) (hqg : q ≠ g) (hN1 : N1 < 18446744073709551616) : Calls Tryd.prog 50 #[pt g 0, .slice (some ⟨q, 0, none⟩) 1 1] w fun e w' => ∃ A1 n1 c1, e = .returned (.tuple #[]) ∧ w'.heap[g]? = some (.cells #[.slice A1 n1 c1] 97 (0, 0)) ∧ Own8 w' w.heap.size 5 A1 n1 c1 (b ++ formN N1) ∧ n1 ≤ n + 9 ∧ Chg [g] w w' := by
 have hql_ := (Array.getElem?_eq_some_iff.1 hq).1
 have hqg_ := hqg
 have hgl_ := (Array.getElem?_eq_some_iff.1 hg).1
 have hon_ := ho.nc
 have hoc_ := ho.cm
 have hol_ := ho.byt.1
 have hn_ := hn
 have hbs_ := hbs
 have holt_ := ho.lt
 refine calls_of_wp Tryd.func50 rfl ?_
 refine wp_seq (reg ?_)
 refine rP 0 6 (.slice (some ⟨q, 0, none⟩) 1 1) ?_
 refine rP 1 7 (.int .i64 1) ?_
 refine rP 2 8 (.int .i64 0) ?_
 refine rEnd 3 rfl (nxt (wp_block ?_))
 refine Wk.loopN 2 ?_
 refine Wk.rdS (wp_seq (reg ?_))
 refine rQ 0 9 _ rfl rfl (qboolT (b := decide ((0 : Int) < (1 : Int))) (decide_eq_true (by decide))) ?_
 refine rEnd 1 rfl (nxt (wp_seq (wp_cond_true (by kernel_rfl) (wp_skip (nxt (wp_seq (wp_block (wp_seq (reg ?_)))))))))
 refine rQ 0 10 (pt q 0) rfl rfl (index_sl 108 24 (.tmp 6) (.tmp 8) rfl Tryd.underlying108 1 (by kernel_rfl) q 0 1 1 0 .i64 (by kernel_rfl) (by kernel_rfl) (by omega)) ?_
 refine rQ 1 11 _ rfl rfl (ld 24 10 q 0 (.int .u64 ((N1 : Nat) : Int)) ((cell_of_row _ _ 0 _ _ _ hq).trans rfl)) ?_
 refine rP 2 5 (.int .u64 ((N1 : Nat) : Int)) ?_
 refine rEnd 3 rfl (nxt (reg ?_))
 refine rP 0 12 (pt g 0) ?_
 refine rP 1 13 (pt g 0) ?_
 refine rP 2 14 (pt g 0) ?_
 refine rP 3 15 (pt g 0) ?_
 refine rQ 4 16 _ rfl rfl (ld 22 15 g 0 (.slice A n c) ((cell_of_row _ _ 0 _ _ _ hg).trans rfl)) ?_
 refine rP 5 17 (.int .u64 ((N1 : Nat) : Int)) ?_
 refine rC 6 18 79 [.tmp 16, .tmp 17] #[22, 24] [.slice A n c, .int .u64 ((N1 : Nat) : Int)] ?_
 refine (AppendUint_any b A n c N1 w ho.byt ⟨by omega, by omega⟩ ho.nil (by omega) hN1).mono ?_
 rintro _ W1 ⟨AA1, nn1, cc1, rfl, ow1, ch1⟩
 have zz1 := ch1.size
 have hfl1 := formN_len hN1
 have hq1 := ow1.nc
 have hq2 := ow1.cm
 have hq3 := ow1.byt.1
 have hqx1 : (b ++ formN N1).length = (b).length + (formN N1).length := List.length_append
 refine ⟨_, rfl, ?_⟩
 refine rP 7 19 (pt g 0) ?_
 refine rP 8 20 (pt g 0) ?_
 refine rY 9 rfl rfl (store1 22 (.tmp 20) (.tmp 18) rfl (by kernel_rfl) g 0 (by kernel_rfl) (.slice AA1 nn1 cc1) (by kernel_rfl) rfl 97 #[.slice A n c] (Chg.hp ch1 hg trivial) (by simp)) ?_
 rintro W2 ⟨hb1, ch2⟩
 replace hb1 : W2.heap[g]? = some (.cells #[.slice AA1 nn1 cc1] 97 (0, 0)) := hb1
 have zz2 := ch2.size
 refine rEnd 10 rfl (inN (nxt (reg ?_)))
 refine rQ 0 21 _ rfl rfl (qint64 (n := 0 + 1) (z := 1) (by omega) (by omega) (by omega)) ?_
 refine rP 1 8 (.int .i64 1) ?_
 refine rEnd 2 rfl (nxt (Wk.rdS (wp_seq (reg ?_))))
 refine rQ 0 9 _ rfl rfl (qboolF (b := decide ((1 : Int) < (1 : Int))) (decide_eq_false (by decide))) ?_
 refine rEnd 1 rfl (nxt (wp_seq (wp_cond_false (by kernel_rfl) (wp_exit (thX (thX (inX ?_)))))))
 have ow2 := Mur.own8 (own_chg ow1.own ch2 (fun q e _ _ => ⟨by have := ow1.lt q e; omega, trivial⟩))
 have kk1 : Chg [g] (w) W1 := Chg.step ((Chg.refl _).more (by simp)) ch1 trivial
 have kk2 := Chg.step kk1 ch2 ⟨.inl (by simp), trivial⟩
 refine Wk.retN (.tuple #[]) rfl (by kernel_rfl) ?_
 exact ⟨AA1, nn1, cc1, rfl, hb1, own8_low ow2 (by omega), by omega, kk2⟩
theorem Wuint2_any (g base : Nat) (A : Option Addr) (n c : Nat) (b : List UInt8) (q N1 N2 : Nat) (w : World) (hg : w.heap[g]? = some (.cells #[.slice A n c] 97 (0, 0))) (hbs : g < base ∧ base ≤ w.heap.size) (ho : Own8 w base 5 A n c b) (hn : n ≤ 5000000) (hq : w.heap[q]? = some (.cells #[.int .u64 ((N1 : Nat) : Int), .int .u64 ((N2 : Nat) : Int)] 24 (0, 0))) (hqg : q ≠ g) (hN1 : N1 < 18446744073709551616) (hN2 : N2 < 18446744073709551616) : Calls Tryd.prog 50 #[pt g 0, .slice (some ⟨q, 0, none⟩) 2 2] w fun e w' => ∃ A1 n1 c1, e = .returned (.tuple #[]) ∧ w'.heap[g]? = some (.cells #[.slice A1 n1 c1] 97 (0, 0)) ∧ Own8 w' w.heap.size 5 A1 n1 c1 (b ++ formN N1 ++ formN N2) ∧ n1 ≤ n + 18 ∧ Chg [g] w w' := by
 have hql_ := (Array.getElem?_eq_some_iff.1 hq).1
 have hqg_ := hqg
 have hgl_ := (Array.getElem?_eq_some_iff.1 hg).1
 have hon_ := ho.nc
 have hoc_ := ho.cm
 have hol_ := ho.byt.1
 have hn_ := hn
 have hbs_ := hbs
 have holt_ := ho.lt
 refine calls_of_wp Tryd.func50 rfl ?_
 refine wp_seq (reg ?_)
 refine rP 0 6 (.slice (some ⟨q, 0, none⟩) 2 2) ?_
 refine rP 1 7 (.int .i64 2) ?_
 refine rP 2 8 (.int .i64 0) ?_
 refine rEnd 3 rfl (nxt (wp_block ?_))
 refine Wk.loopN 3 ?_
 refine Wk.rdS (wp_seq (reg ?_))
 refine rQ 0 9 _ rfl rfl (qboolT (b := decide ((0 : Int) < (2 : Int))) (decide_eq_true (by decide))) ?_
 refine rEnd 1 rfl (nxt (wp_seq (wp_cond_true (by kernel_rfl) (wp_skip (nxt (wp_seq (wp_block (wp_seq (reg ?_)))))))))
 refine rQ 0 10 (pt q 0) rfl rfl (index_sl 108 24 (.tmp 6) (.tmp 8) rfl Tryd.underlying108 1 (by kernel_rfl) q 0 2 2 0 .i64 (by kernel_rfl) (by kernel_rfl) (by omega)) ?_
 refine rQ 1 11 _ rfl rfl (ld 24 10 q 0 (.int .u64 ((N1 : Nat) : Int)) ((cell_of_row _ _ 0 _ _ _ hq).trans rfl)) ?_
 refine rP 2 5 (.int .u64 ((N1 : Nat) : Int)) ?_
 refine rEnd 3 rfl (nxt (reg ?_))
 refine rP 0 12 (pt g 0) ?_
 refine rP 1 13 (pt g 0) ?_
 refine rP 2 14 (pt g 0) ?_
 refine rP 3 15 (pt g 0) ?_
 refine rQ 4 16 _ rfl rfl (ld 22 15 g 0 (.slice A n c) ((cell_of_row _ _ 0 _ _ _ hg).trans rfl)) ?_
 refine rP 5 17 (.int .u64 ((N1 : Nat) : Int)) ?_
 refine rC 6 18 79 [.tmp 16, .tmp 17] #[22, 24] [.slice A n c, .int .u64 ((N1 : Nat) : Int)] ?_
 refine (AppendUint_any b A n c N1 w ho.byt ⟨by omega, by omega⟩ ho.nil (by omega) hN1).mono ?_
 rintro _ W1 ⟨AA1, nn1, cc1, rfl, ow1, ch1⟩
 have zz1 := ch1.size
 have hfl1 := formN_len hN1
 have hq1 := ow1.nc
 have hq2 := ow1.cm
 have hq3 := ow1.byt.1
 have hqx1 : (b ++ formN N1).length = (b).length + (formN N1).length := List.length_append
 refine ⟨_, rfl, ?_⟩
 refine rP 7 19 (pt g 0) ?_
 refine rP 8 20 (pt g 0) ?_
 refine rY 9 rfl rfl (store1 22 (.tmp 20) (.tmp 18) rfl (by kernel_rfl) g 0 (by kernel_rfl) (.slice AA1 nn1 cc1) (by kernel_rfl) rfl 97 #[.slice A n c] (Chg.hp ch1 hg trivial) (by simp)) ?_
 rintro W2 ⟨hb1, ch2⟩
 replace hb1 : W2.heap[g]? = some (.cells #[.slice AA1 nn1 cc1] 97 (0, 0)) := hb1
 have zz2 := ch2.size
 refine rEnd 10 rfl (inN (nxt (reg ?_)))
 refine rQ 0 21 _ rfl rfl (qint64 (n := 0 + 1) (z := 1) (by omega) (by omega) (by omega)) ?_
 refine rP 1 8 (.int .i64 1) ?_
 refine rEnd 2 rfl (nxt (Wk.rdS (wp_seq (reg ?_))))
 refine rQ 0 9 _ rfl rfl (qboolT (b := decide ((1 : Int) < (2 : Int))) (decide_eq_true (by decide))) ?_
 refine rEnd 1 rfl (nxt (wp_seq (wp_cond_true (by kernel_rfl) (wp_skip (nxt (wp_seq (wp_block (wp_seq (reg ?_)))))))))
 refine rQ 0 10 (pt q 1) rfl rfl (index_sl 108 24 (.tmp 6) (.tmp 8) rfl Tryd.underlying108 1 (by kernel_rfl) q 0 2 2 1 .i64 (by kernel_rfl) (by kernel_rfl) (by omega)) ?_
 refine rQ 1 11 _ rfl rfl (ld 24 10 q 1 (.int .u64 ((N2 : Nat) : Int)) ((cell_of_row _ _ 1 _ _ _ (Chg.hp ch2 (Chg.hp ch1 hq trivial) ⟨by omega, trivial⟩)).trans rfl)) ?_
 refine rP 2 5 (.int .u64 ((N2 : Nat) : Int)) ?_
 refine rEnd 3 rfl (nxt (reg ?_))
 refine rP 0 12 (pt g 0) ?_
 refine rP 1 13 (pt g 0) ?_
 refine rP 2 14 (pt g 0) ?_
 refine rP 3 15 (pt g 0) ?_
 refine rQ 4 16 _ rfl rfl (ld 22 15 g 0 (.slice AA1 nn1 cc1) ((cell_of_row _ _ 0 _ _ _ hb1).trans rfl)) ?_
 refine rP 5 17 (.int .u64 ((N2 : Nat) : Int)) ?_
 refine rC 6 18 79 [.tmp 16, .tmp 17] #[22, 24] [.slice AA1 nn1 cc1, .int .u64 ((N2 : Nat) : Int)] ?_
 have ow2 := Mur.own8 (own_chg ow1.own ch2 (fun q e _ _ => ⟨by have := ow1.lt q e; omega, trivial⟩))
 refine (AppendUint_any (b ++ formN N1) AA1 nn1 cc1 N2 W2 ow2.byt ⟨by omega, by omega⟩ ow2.nil (by omega) hN2).mono ?_
 rintro _ W3 ⟨AA2, nn2, cc2, rfl, ow3, ch3⟩
 have zz3 := ch3.size
 have hfl2 := formN_len hN2
 have hq4 := ow3.nc
 have hq5 := ow3.cm
 have hq6 := ow3.byt.1
 have hqx2 : (b ++ formN N1 ++ formN N2).length = (b ++ formN N1).length + (formN N2).length := List.length_append
 refine ⟨_, rfl, ?_⟩
 refine rP 7 19 (pt g 0) ?_
 refine rP 8 20 (pt g 0) ?_
 refine rY 9 rfl rfl (store1 22 (.tmp 20) (.tmp 18) rfl (by kernel_rfl) g 0 (by kernel_rfl) (.slice AA2 nn2 cc2) (by kernel_rfl) rfl 97 #[.slice AA1 nn1 cc1] (Chg.hp ch3 hb1 trivial) (by simp)) ?_
 rintro W4 ⟨hb2, ch4⟩
 replace hb2 : W4.heap[g]? = some (.cells #[.slice AA2 nn2 cc2] 97 (0, 0)) := hb2
 have zz4 := ch4.size
 refine rEnd 10 rfl (inN (nxt (reg ?_)))
 refine rQ 0 21 _ rfl rfl (qint64 (n := 1 + 1) (z := 2) (by omega) (by omega) (by omega)) ?_
 refine rP 1 8 (.int .i64 2) ?_
 refine rEnd 2 rfl (nxt (Wk.rdS (wp_seq (reg ?_))))
 refine rQ 0 9 _ rfl rfl (qboolF (b := decide ((2 : Int) < (2 : Int))) (decide_eq_false (by decide))) ?_
 refine rEnd 1 rfl (nxt (wp_seq (wp_cond_false (by kernel_rfl) (wp_exit (thX (thX (inX ?_)))))))
 have ow4 := Mur.own8 (own_chg ow3.own ch4 (fun q e _ _ => ⟨by have := ow3.lt q e; omega, trivial⟩))
 have kk1 : Chg [g] (w) W1 := Chg.step ((Chg.refl _).more (by simp)) ch1 trivial
 have kk2 := Chg.step kk1 ch2 ⟨.inl (by simp), trivial⟩
 have kk3 := Chg.step kk2 ch3 trivial
 have kk4 := Chg.step kk3 ch4 ⟨.inl (by simp), trivial⟩
 refine Wk.retN (.tuple #[]) rfl (by kernel_rfl) ?_
 exact ⟨AA2, nn2, cc2, rfl, hb2, own8_low ow4 (by omega), by omega, kk4⟩
theorem Wuint3_any (g base : Nat) (A : Option Addr) (n c : Nat) (b : List UInt8) (q N1 N2 N3 : Nat) (w : World) (hg : w.heap[g]? = some (.cells #[.slice A n c] 97 (0, 0))) (hbs : g < base ∧ base ≤ w.heap.size) (ho : Own8 w base 5 A n c b) (hn : n ≤ 5000000) (hq : w.heap[q]? = some (.cells #[.int .u64 ((N1 : Nat) : Int), .int .u64 ((N2 : Nat) : Int), .int .u64 ((N3 : Nat) : Int)] 24 (0, 0))) (hqg : q ≠ g) (hN1 : N1 < 18446744073709551616) (hN2 : N2 < 18446744073709551616) (hN3 : N3 < 18446744073709551616) : Calls Tryd.prog 50 #[pt g 0, .slice (some ⟨q, 0, none⟩) 3 3] w fun e w' => ∃ A1 n1 c1, e = .returned (.tuple #[]) ∧ w'.heap[g]? = some (.cells #[.slice A1 n1 c1] 97 (0, 0)) ∧ Own8 w' w.heap.size 5 A1 n1 c1 (b ++ formN N1 ++ formN N2 ++ formN N3) ∧ n1 ≤ n + 27 ∧ Chg [g] w w' := by
 have hql_ := (Array.getElem?_eq_some_iff.1 hq).1
 have hqg_ := hqg
 have hgl_ := (Array.getElem?_eq_some_iff.1 hg).1
 have hon_ := ho.nc
 have hoc_ := ho.cm
 have hol_ := ho.byt.1
 have hn_ := hn
 have hbs_ := hbs
 have holt_ := ho.lt
 refine calls_of_wp Tryd.func50 rfl ?_
 refine wp_seq (reg ?_)
 refine rP 0 6 (.slice (some ⟨q, 0, none⟩) 3 3) ?_
 refine rP 1 7 (.int .i64 3) ?_
 refine rP 2 8 (.int .i64 0) ?_
 refine rEnd 3 rfl (nxt (wp_block ?_))
 refine Wk.loopN 4 ?_
 refine Wk.rdS (wp_seq (reg ?_))
 refine rQ 0 9 _ rfl rfl (qboolT (b := decide ((0 : Int) < (3 : Int))) (decide_eq_true (by decide))) ?_
 refine rEnd 1 rfl (nxt (wp_seq (wp_cond_true (by kernel_rfl) (wp_skip (nxt (wp_seq (wp_block (wp_seq (reg ?_)))))))))
 refine rQ 0 10 (pt q 0) rfl rfl (index_sl 108 24 (.tmp 6) (.tmp 8) rfl Tryd.underlying108 1 (by kernel_rfl) q 0 3 3 0 .i64 (by kernel_rfl) (by kernel_rfl) (by omega)) ?_
 refine rQ 1 11 _ rfl rfl (ld 24 10 q 0 (.int .u64 ((N1 : Nat) : Int)) ((cell_of_row _ _ 0 _ _ _ hq).trans rfl)) ?_
 refine rP 2 5 (.int .u64 ((N1 : Nat) : Int)) ?_
 refine rEnd 3 rfl (nxt (reg ?_))
 refine rP 0 12 (pt g 0) ?_
 refine rP 1 13 (pt g 0) ?_
 refine rP 2 14 (pt g 0) ?_
 refine rP 3 15 (pt g 0) ?_
 refine rQ 4 16 _ rfl rfl (ld 22 15 g 0 (.slice A n c) ((cell_of_row _ _ 0 _ _ _ hg).trans rfl)) ?_
 refine rP 5 17 (.int .u64 ((N1 : Nat) : Int)) ?_
 refine rC 6 18 79 [.tmp 16, .tmp 17] #[22, 24] [.slice A n c, .int .u64 ((N1 : Nat) : Int)] ?_
 refine (AppendUint_any b A n c N1 w ho.byt ⟨by omega, by omega⟩ ho.nil (by omega) hN1).mono ?_
 rintro _ W1 ⟨AA1, nn1, cc1, rfl, ow1, ch1⟩
 have zz1 := ch1.size
 have hfl1 := formN_len hN1
 have hq1 := ow1.nc
 have hq2 := ow1.cm
 have hq3 := ow1.byt.1
 have hqx1 : (b ++ formN N1).length = (b).length + (formN N1).length := List.length_append
 refine ⟨_, rfl, ?_⟩
 refine rP 7 19 (pt g 0) ?_
 refine rP 8 20 (pt g 0) ?_
 refine rY 9 rfl rfl (store1 22 (.tmp 20) (.tmp 18) rfl (by kernel_rfl) g 0 (by kernel_rfl) (.slice AA1 nn1 cc1) (by kernel_rfl) rfl 97 #[.slice A n c] (Chg.hp ch1 hg trivial) (by simp)) ?_
 rintro W2 ⟨hb1, ch2⟩
 replace hb1 : W2.heap[g]? = some (.cells #[.slice AA1 nn1 cc1] 97 (0, 0)) := hb1
 have zz2 := ch2.size
 refine rEnd 10 rfl (inN (nxt (reg ?_)))
 refine rQ 0 21 _ rfl rfl (qint64 (n := 0 + 1) (z := 1) (by omega) (by omega) (by omega)) ?_
 refine rP 1 8 (.int .i64 1) ?_
 refine rEnd 2 rfl (nxt (Wk.rdS (wp_seq (reg ?_))))
 refine rQ 0 9 _ rfl rfl (qboolT (b := decide ((1 : Int) < (3 : Int))) (decide_eq_true (by decide))) ?_
 refine rEnd 1 rfl (nxt (wp_seq (wp_cond_true (by kernel_rfl) (wp_skip (nxt (wp_seq (wp_block (wp_seq (reg ?_)))))))))
 refine rQ 0 10 (pt q 1) rfl rfl (index_sl 108 24 (.tmp 6) (.tmp 8) rfl Tryd.underlying108 1 (by kernel_rfl) q 0 3 3 1 .i64 (by kernel_rfl) (by kernel_rfl) (by omega)) ?_
 refine rQ 1 11 _ rfl rfl (ld 24 10 q 1 (.int .u64 ((N2 : Nat) : Int)) ((cell_of_row _ _ 1 _ _ _ (Chg.hp ch2 (Chg.hp ch1 hq trivial) ⟨by omega, trivial⟩)).trans rfl)) ?_
 refine rP 2 5 (.int .u64 ((N2 : Nat) : Int)) ?_
 refine rEnd 3 rfl (nxt (reg ?_))
 refine rP 0 12 (pt g 0) ?_
 refine rP 1 13 (pt g 0) ?_
 refine rP 2 14 (pt g 0) ?_
 refine rP 3 15 (pt g 0) ?_
 refine rQ 4 16 _ rfl rfl (ld 22 15 g 0 (.slice AA1 nn1 cc1) ((cell_of_row _ _ 0 _ _ _ hb1).trans rfl)) ?_
 refine rP 5 17 (.int .u64 ((N2 : Nat) : Int)) ?_
 refine rC 6 18 79 [.tmp 16, .tmp 17] #[22, 24] [.slice AA1 nn1 cc1, .int .u64 ((N2 : Nat) : Int)] ?_
 have ow2 := Mur.own8 (own_chg ow1.own ch2 (fun q e _ _ => ⟨by have := ow1.lt q e; omega, trivial⟩))
 refine (AppendUint_any (b ++ formN N1) AA1 nn1 cc1 N2 W2 ow2.byt ⟨by omega, by omega⟩ ow2.nil (by omega) hN2).mono ?_
 rintro _ W3 ⟨AA2, nn2, cc2, rfl, ow3, ch3⟩
 have zz3 := ch3.size
 have hfl2 := formN_len hN2
 have hq4 := ow3.nc
 have hq5 := ow3.cm
 have hq6 := ow3.byt.1
 have hqx2 : (b ++ formN N1 ++ formN N2).length = (b ++ formN N1).length + (formN N2).length := List.length_append
 refine ⟨_, rfl, ?_⟩
 refine rP 7 19 (pt g 0) ?_
 refine rP 8 20 (pt g 0) ?_
 refine rY 9 rfl rfl (store1 22 (.tmp 20) (.tmp 18) rfl (by kernel_rfl) g 0 (by kernel_rfl) (.slice AA2 nn2 cc2) (by kernel_rfl) rfl 97 #[.slice AA1 nn1 cc1] (Chg.hp ch3 hb1 trivial) (by simp)) ?_
 rintro W4 ⟨hb2, ch4⟩
 replace hb2 : W4.heap[g]? = some (.cells #[.slice AA2 nn2 cc2] 97 (0, 0)) := hb2
 have zz4 := ch4.size
 refine rEnd 10 rfl (inN (nxt (reg ?_)))
 refine rQ 0 21 _ rfl rfl (qint64 (n := 1 + 1) (z := 2) (by omega) (by omega) (by omega)) ?_
 refine rP 1 8 (.int .i64 2) ?_
 refine rEnd 2 rfl (nxt (Wk.rdS (wp_seq (reg ?_))))
 refine rQ 0 9 _ rfl rfl (qboolT (b := decide ((2 : Int) < (3 : Int))) (decide_eq_true (by decide))) ?_
 refine rEnd 1 rfl (nxt (wp_seq (wp_cond_true (by kernel_rfl) (wp_skip (nxt (wp_seq (wp_block (wp_seq (reg ?_)))))))))
 refine rQ 0 10 (pt q 2) rfl rfl (index_sl 108 24 (.tmp 6) (.tmp 8) rfl Tryd.underlying108 1 (by kernel_rfl) q 0 3 3 2 .i64 (by kernel_rfl) (by kernel_rfl) (by omega)) ?_
 refine rQ 1 11 _ rfl rfl (ld 24 10 q 2 (.int .u64 ((N3 : Nat) : Int)) ((cell_of_row _ _ 2 _ _ _ (Chg.hp ch4 (Chg.hp ch3 (Chg.hp ch2 (Chg.hp ch1 hq trivial) ⟨by omega, trivial⟩) trivial) ⟨by omega, trivial⟩)).trans rfl)) ?_
 refine rP 2 5 (.int .u64 ((N3 : Nat) : Int)) ?_
 refine rEnd 3 rfl (nxt (reg ?_))
 refine rP 0 12 (pt g 0) ?_
 refine rP 1 13 (pt g 0) ?_
 refine rP 2 14 (pt g 0) ?_
 refine rP 3 15 (pt g 0) ?_
 refine rQ 4 16 _ rfl rfl (ld 22 15 g 0 (.slice AA2 nn2 cc2) ((cell_of_row _ _ 0 _ _ _ hb2).trans rfl)) ?_
 refine rP 5 17 (.int .u64 ((N3 : Nat) : Int)) ?_
 refine rC 6 18 79 [.tmp 16, .tmp 17] #[22, 24] [.slice AA2 nn2 cc2, .int .u64 ((N3 : Nat) : Int)] ?_
 have ow4 := Mur.own8 (own_chg ow3.own ch4 (fun q e _ _ => ⟨by have := ow3.lt q e; omega, trivial⟩))
 refine (AppendUint_any (b ++ formN N1 ++ formN N2) AA2 nn2 cc2 N3 W4 ow4.byt ⟨by omega, by omega⟩ ow4.nil (by omega) hN3).mono ?_
 rintro _ W5 ⟨AA3, nn3, cc3, rfl, ow5, ch5⟩
 have zz5 := ch5.size
 have hfl3 := formN_len hN3
 have hq7 := ow5.nc
 have hq8 := ow5.cm
 have hq9 := ow5.byt.1
 have hqx3 : (b ++ formN N1 ++ formN N2 ++ formN N3).length = (b ++ formN N1 ++ formN N2).length + (formN N3).length := List.length_append
 refine ⟨_, rfl, ?_⟩
 refine rP 7 19 (pt g 0) ?_
 refine rP 8 20 (pt g 0) ?_
 refine rY 9 rfl rfl (store1 22 (.tmp 20) (.tmp 18) rfl (by kernel_rfl) g 0 (by kernel_rfl) (.slice AA3 nn3 cc3) (by kernel_rfl) rfl 97 #[.slice AA2 nn2 cc2] (Chg.hp ch5 hb2 trivial) (by simp)) ?_
 rintro W6 ⟨hb3, ch6⟩
 replace hb3 : W6.heap[g]? = some (.cells #[.slice AA3 nn3 cc3] 97 (0, 0)) := hb3
 have zz6 := ch6.size
 refine rEnd 10 rfl (inN (nxt (reg ?_)))
 refine rQ 0 21 _ rfl rfl (qint64 (n := 2 + 1) (z := 3) (by omega) (by omega) (by omega)) ?_
 refine rP 1 8 (.int .i64 3) ?_
 refine rEnd 2 rfl (nxt (Wk.rdS (wp_seq (reg ?_))))
 refine rQ 0 9 _ rfl rfl (qboolF (b := decide ((3 : Int) < (3 : Int))) (decide_eq_false (by decide))) ?_
 refine rEnd 1 rfl (nxt (wp_seq (wp_cond_false (by kernel_rfl) (wp_exit (thX (thX (inX ?_)))))))
 have ow6 := Mur.own8 (own_chg ow5.own ch6 (fun q e _ _ => ⟨by have := ow5.lt q e; omega, trivial⟩))
 have kk1 : Chg [g] (w) W1 := Chg.step ((Chg.refl _).more (by simp)) ch1 trivial
 have kk2 := Chg.step kk1 ch2 ⟨.inl (by simp), trivial⟩
 have kk3 := Chg.step kk2 ch3 trivial
 have kk4 := Chg.step kk3 ch4 ⟨.inl (by simp), trivial⟩
 have kk5 := Chg.step kk4 ch5 trivial
 have kk6 := Chg.step kk5 ch6 ⟨.inl (by simp), trivial⟩
 refine Wk.retN (.tuple #[]) rfl (by kernel_rfl) ?_
 exact ⟨AA3, nn3, cc3, rfl, hb3, own8_low ow6 (by omega), by omega, kk6⟩
theorem Wint1_any (g base : Nat) (A : Option Addr) (n c : Nat) (b : List UInt8) (q : Nat) (i1 : Int) (w : World) (hg : w.heap[g]? = some (.cells #[.slice A n c] 97 (0, 0))) (hbs : g < base ∧ base ≤ w.heap.size) (ho : Own8 w base 5 A n c b) (hn : n ≤ 4000000) (hq : w.heap[q]? = some (.cells #[.int .i64 i1] 3 (0, 0))) (hqg : q ≠ g) : Calls Tryd.prog 49 #[pt g 0, .slice (some ⟨q, 0, none⟩) 1 1] w fun e w' => ∃ A1 n1 c1, e = .returned (.tuple #[]) ∧ w'.heap[g]? = some (.cells #[.slice A1 n1 c1] 97 (0, 0)) ∧ Own8 w' w.heap.size 5 A1 n1 c1 (b ++ formN (u64n i1)) ∧ n1 ≤ n + 9 ∧ Chg [g] w w' := by
 have hql_ := (Array.getElem?_eq_some_iff.1 hq).1
 have hqg_ := hqg
 have hgl_ := (Array.getElem?_eq_some_iff.1 hg).1
 have hon_ := ho.nc
 have hoc_ := ho.cm
 have hol_ := ho.byt.1
 have hn_ := hn
 have hbs_ := hbs
 have holt_ := ho.lt
 refine calls_of_wp Tryd.func49 rfl ?_
 refine wp_seq (reg ?_)
 refine rP 0 6 (.slice (some ⟨q, 0, none⟩) 1 1) ?_
 refine rP 1 7 (.int .i64 1) ?_
 refine rP 2 8 (.int .i64 0) ?_
 refine rEnd 3 rfl (nxt (wp_block ?_))
 refine Wk.loopN 2 ?_
 refine Wk.rdS (wp_seq (reg ?_))
 refine rQ 0 9 _ rfl rfl (qboolT (b := decide ((0 : Int) < (1 : Int))) (decide_eq_true (by decide))) ?_
 refine rEnd 1 rfl (nxt (wp_seq (wp_cond_true (by kernel_rfl) (wp_skip (nxt (wp_seq (wp_block (wp_seq (reg ?_)))))))))
 refine rQ 0 10 (pt q 0) rfl rfl (index_sl 110 3 (.tmp 6) (.tmp 8) rfl Tryd.underlying110 1 (by kernel_rfl) q 0 1 1 0 .i64 (by kernel_rfl) (by kernel_rfl) (by omega)) ?_
 refine rQ 1 11 _ rfl rfl (ld 3 10 q 0 (.int .i64 i1) ((cell_of_row _ _ 0 _ _ _ hq).trans rfl)) ?_
 refine rP 2 5 (.int .i64 i1) ?_
 refine rEnd 3 rfl (nxt (reg ?_))
 refine rP 0 12 (pt g 0) ?_
 refine rP 1 13 (.int .i64 i1) ?_
 refine rQ 2 14 (.int .u64 ((u64n i1 : Nat) : Int)) rfl rfl (conv_u64n 3 24 (.tmp 13) rfl (by kernel_rfl) Tryd.underlying24 .i64 i1 (by kernel_rfl)) ?_
 refine rX 3 15 rfl rfl (new_ex (.slice (some ⟨w.heap.size, 0, none⟩) 1 1) #[.int .u64 ((u64n i1 : Nat) : Int)] 24 (by kernel_rfl)) ?_
 rintro _ W1 ⟨rfl, hb1, ch1, sz1⟩
 have zz1 := ch1.size
 refine rC 4 16 50 [.tmp 12, .tmp 15] #[95, 108] [pt g 0, .slice (some ⟨w.heap.size, 0, none⟩) 1 1] ?_
 have ow1 := Mur.own8 (own_chg ho.own ch1 (fun q e _ _ => trivial))
 refine (Wuint1_any g base A n c b w.heap.size (u64n i1) W1 (Chg.hp ch1 hg trivial) ⟨by omega, by omega⟩ ow1 (by omega) hb1 (by omega) (u64n_lt _)).mono ?_
 rintro _ W2 ⟨AA1, nn1, cc1, rfl, hgw1, ow2, hle1, ch2⟩
 have zz2 := ch2.size
 have hq1 := ow2.nc
 have hq2 := ow2.cm
 have hq3 := ow2.byt.1
 refine ⟨_, rfl, ?_⟩
 refine rEnd 5 rfl (inN (nxt (reg ?_)))
 refine rQ 0 17 _ rfl rfl (qint64 (n := 0 + 1) (z := 1) (by omega) (by omega) (by omega)) ?_
 refine rP 1 8 (.int .i64 1) ?_
 refine rEnd 2 rfl (nxt (Wk.rdS (wp_seq (reg ?_))))
 refine rQ 0 9 _ rfl rfl (qboolF (b := decide ((1 : Int) < (1 : Int))) (decide_eq_false (by decide))) ?_
 refine rEnd 1 rfl (nxt (wp_seq (wp_cond_false (by kernel_rfl) (wp_exit (thX (thX (inX ?_)))))))
 have kk1 : Chg [g] (w) W1 := Chg.step ((Chg.refl _).more (by simp)) ch1 trivial
 have kk2 := Chg.step kk1 ch2 ⟨.inl (by simp), trivial⟩
 refine Wk.retN (.tuple #[]) rfl (by kernel_rfl) ?_
 exact ⟨AA1, nn1, cc1, rfl, hgw1, own8_low ow2 (by omega), by omega, kk2⟩
theorem Wint3_any (g base : Nat) (A : Option Addr) (n c : Nat) (b : List UInt8) (q : Nat) (i1 i2 i3 : Int) (w : World) (hg : w.heap[g]? = some (.cells #[.slice A n c] 97 (0, 0))) (hbs : g < base ∧ base ≤ w.heap.size) (ho : Own8 w base 5 A n c b) (hn : n ≤ 4000000) (hq : w.heap[q]? = some (.cells #[.int .i64 i1, .int .i64 i2, .int .i64 i3] 3 (0, 0))) (hqg : q ≠ g) : Calls Tryd.prog 49 #[pt g 0, .slice (some ⟨q, 0, none⟩) 3 3] w fun e w' => ∃ A1 n1 c1, e = .returned (.tuple #[]) ∧ w'.heap[g]? = some (.cells #[.slice A1 n1 c1] 97 (0, 0)) ∧ Own8 w' w.heap.size 5 A1 n1 c1 (b ++ formN (u64n i1) ++ formN (u64n i2) ++ formN (u64n i3)) ∧ n1 ≤ n + 27 ∧ Chg [g] w w' := by
 have hql_ := (Array.getElem?_eq_some_iff.1 hq).1
 have hqg_ := hqg
 have hgl_ := (Array.getElem?_eq_some_iff.1 hg).1
 have hon_ := ho.nc
 have hoc_ := ho.cm
 have hol_ := ho.byt.1
 have hn_ := hn
 have hbs_ := hbs
 have holt_ := ho.lt
 refine calls_of_wp Tryd.func49 rfl ?_
 refine wp_seq (reg ?_)
 refine rP 0 6 (.slice (some ⟨q, 0, none⟩) 3 3) ?_
 refine rP 1 7 (.int .i64 3) ?_
 refine rP 2 8 (.int .i64 0) ?_
 refine rEnd 3 rfl (nxt (wp_block ?_))
 refine Wk.loopN 4 ?_
 refine Wk.rdS (wp_seq (reg ?_))
 refine rQ 0 9 _ rfl rfl (qboolT (b := decide ((0 : Int) < (3 : Int))) (decide_eq_true (by decide))) ?_
 refine rEnd 1 rfl (nxt (wp_seq (wp_cond_true (by kernel_rfl) (wp_skip (nxt (wp_seq (wp_block (wp_seq (reg ?_)))))))))
 refine rQ 0 10 (pt q 0) rfl rfl (index_sl 110 3 (.tmp 6) (.tmp 8) rfl Tryd.underlying110 1 (by kernel_rfl) q 0 3 3 0 .i64 (by kernel_rfl) (by kernel_rfl) (by omega)) ?_
 refine rQ 1 11 _ rfl rfl (ld 3 10 q 0 (.int .i64 i1) ((cell_of_row _ _ 0 _ _ _ hq).trans rfl)) ?_
 refine rP 2 5 (.int .i64 i1) ?_
 refine rEnd 3 rfl (nxt (reg ?_))
 refine rP 0 12 (pt g 0) ?_
 refine rP 1 13 (.int .i64 i1) ?_
 refine rQ 2 14 (.int .u64 ((u64n i1 : Nat) : Int)) rfl rfl (conv_u64n 3 24 (.tmp 13) rfl (by kernel_rfl) Tryd.underlying24 .i64 i1 (by kernel_rfl)) ?_
 refine rX 3 15 rfl rfl (new_ex (.slice (some ⟨w.heap.size, 0, none⟩) 1 1) #[.int .u64 ((u64n i1 : Nat) : Int)] 24 (by kernel_rfl)) ?_
 rintro _ W1 ⟨rfl, hb1, ch1, sz1⟩
 have zz1 := ch1.size
 refine rC 4 16 50 [.tmp 12, .tmp 15] #[95, 108] [pt g 0, .slice (some ⟨w.heap.size, 0, none⟩) 1 1] ?_
 have ow1 := Mur.own8 (own_chg ho.own ch1 (fun q e _ _ => trivial))
 refine (Wuint1_any g base A n c b w.heap.size (u64n i1) W1 (Chg.hp ch1 hg trivial) ⟨by omega, by omega⟩ ow1 (by omega) hb1 (by omega) (u64n_lt _)).mono ?_
 rintro _ W2 ⟨AA1, nn1, cc1, rfl, hgw1, ow2, hle1, ch2⟩
 have zz2 := ch2.size
 have hq1 := ow2.nc
 have hq2 := ow2.cm
 have hq3 := ow2.byt.1
 refine ⟨_, rfl, ?_⟩
 refine rEnd 5 rfl (inN (nxt (reg ?_)))
 refine rQ 0 17 _ rfl rfl (qint64 (n := 0 + 1) (z := 1) (by omega) (by omega) (by omega)) ?_
 refine rP 1 8 (.int .i64 1) ?_
 refine rEnd 2 rfl (nxt (Wk.rdS (wp_seq (reg ?_))))
 refine rQ 0 9 _ rfl rfl (qboolT (b := decide ((1 : Int) < (3 : Int))) (decide_eq_true (by decide))) ?_
 refine rEnd 1 rfl (nxt (wp_seq (wp_cond_true (by kernel_rfl) (wp_skip (nxt (wp_seq (wp_block (wp_seq (reg ?_)))))))))
 refine rQ 0 10 (pt q 1) rfl rfl (index_sl 110 3 (.tmp 6) (.tmp 8) rfl Tryd.underlying110 1 (by kernel_rfl) q 0 3 3 1 .i64 (by kernel_rfl) (by kernel_rfl) (by omega)) ?_
 refine rQ 1 11 _ rfl rfl (ld 3 10 q 1 (.int .i64 i2) ((cell_of_row _ _ 1 _ _ _ (Chg.hp ch2 (Chg.hp ch1 hq trivial) ⟨by omega, trivial⟩)).trans rfl)) ?_
 refine rP 2 5 (.int .i64 i2) ?_
 refine rEnd 3 rfl (nxt (reg ?_))
 refine rP 0 12 (pt g 0) ?_
 refine rP 1 13 (.int .i64 i2) ?_
 refine rQ 2 14 (.int .u64 ((u64n i2 : Nat) : Int)) rfl rfl (conv_u64n 3 24 (.tmp 13) rfl (by kernel_rfl) Tryd.underlying24 .i64 i2 (by kernel_rfl)) ?_
 refine rX 3 15 rfl rfl (new_ex (.slice (some ⟨W2.heap.size, 0, none⟩) 1 1) #[.int .u64 ((u64n i2 : Nat) : Int)] 24 (by kernel_rfl)) ?_
 rintro _ W3 ⟨rfl, hb2, ch3, sz2⟩
 have zz3 := ch3.size
 refine rC 4 16 50 [.tmp 12, .tmp 15] #[95, 108] [pt g 0, .slice (some ⟨W2.heap.size, 0, none⟩) 1 1] ?_
 have ow3 := Mur.own8 (own_chg ow2.own ch3 (fun q e _ _ => trivial))
 refine (Wuint1_any g W1.heap.size AA1 nn1 cc1 (b ++ formN (u64n i1)) W2.heap.size (u64n i2) W3 (Chg.hp ch3 hgw1 trivial) ⟨by omega, by omega⟩ ow3 (by omega) hb2 (by omega) (u64n_lt _)).mono ?_
 rintro _ W4 ⟨AA2, nn2, cc2, rfl, hgw2, ow4, hle2, ch4⟩
 have zz4 := ch4.size
 have hq4 := ow4.nc
 have hq5 := ow4.cm
 have hq6 := ow4.byt.1
 refine ⟨_, rfl, ?_⟩
 refine rEnd 5 rfl (inN (nxt (reg ?_)))
 refine rQ 0 17 _ rfl rfl (qint64 (n := 1 + 1) (z := 2) (by omega) (by omega) (by omega)) ?_
 refine rP 1 8 (.int .i64 2) ?_
 refine rEnd 2 rfl (nxt (Wk.rdS (wp_seq (reg ?_))))
 refine rQ 0 9 _ rfl rfl (qboolT (b := decide ((2 : Int) < (3 : Int))) (decide_eq_true (by decide))) ?_
 refine rEnd 1 rfl (nxt (wp_seq (wp_cond_true (by kernel_rfl) (wp_skip (nxt (wp_seq (wp_block (wp_seq (reg ?_)))))))))
 refine rQ 0 10 (pt q 2) rfl rfl (index_sl 110 3 (.tmp 6) (.tmp 8) rfl Tryd.underlying110 1 (by kernel_rfl) q 0 3 3 2 .i64 (by kernel_rfl) (by kernel_rfl) (by omega)) ?_
 refine rQ 1 11 _ rfl rfl (ld 3 10 q 2 (.int .i64 i3) ((cell_of_row _ _ 2 _ _ _ (Chg.hp ch4 (Chg.hp ch3 (Chg.hp ch2 (Chg.hp ch1 hq trivial) ⟨by omega, trivial⟩) trivial) ⟨by omega, trivial⟩)).trans rfl)) ?_
 refine rP 2 5 (.int .i64 i3) ?_
 refine rEnd 3 rfl (nxt (reg ?_))
 refine rP 0 12 (pt g 0) ?_
 refine rP 1 13 (.int .i64 i3) ?_
 refine rQ 2 14 (.int .u64 ((u64n i3 : Nat) : Int)) rfl rfl (conv_u64n 3 24 (.tmp 13) rfl (by kernel_rfl) Tryd.underlying24 .i64 i3 (by kernel_rfl)) ?_
 refine rX 3 15 rfl rfl (new_ex (.slice (some ⟨W4.heap.size, 0, none⟩) 1 1) #[.int .u64 ((u64n i3 : Nat) : Int)] 24 (by kernel_rfl)) ?_
 rintro _ W5 ⟨rfl, hb3, ch5, sz3⟩
 have zz5 := ch5.size
 refine rC 4 16 50 [.tmp 12, .tmp 15] #[95, 108] [pt g 0, .slice (some ⟨W4.heap.size, 0, none⟩) 1 1] ?_
 have ow5 := Mur.own8 (own_chg ow4.own ch5 (fun q e _ _ => trivial))
 refine (Wuint1_any g W3.heap.size AA2 nn2 cc2 (b ++ formN (u64n i1) ++ formN (u64n i2)) W4.heap.size (u64n i3) W5 (Chg.hp ch5 hgw2 trivial) ⟨by omega, by omega⟩ ow5 (by omega) hb3 (by omega) (u64n_lt _)).mono ?_
 rintro _ W6 ⟨AA3, nn3, cc3, rfl, hgw3, ow6, hle3, ch6⟩
 have zz6 := ch6.size
 have hq7 := ow6.nc
 have hq8 := ow6.cm
 have hq9 := ow6.byt.1
 refine ⟨_, rfl, ?_⟩
 refine rEnd 5 rfl (inN (nxt (reg ?_)))
 refine rQ 0 17 _ rfl rfl (qint64 (n := 2 + 1) (z := 3) (by omega) (by omega) (by omega)) ?_
 refine rP 1 8 (.int .i64 3) ?_
 refine rEnd 2 rfl (nxt (Wk.rdS (wp_seq (reg ?_))))
 refine rQ 0 9 _ rfl rfl (qboolF (b := decide ((3 : Int) < (3 : Int))) (decide_eq_false (by decide))) ?_
 refine rEnd 1 rfl (nxt (wp_seq (wp_cond_false (by kernel_rfl) (wp_exit (thX (thX (inX ?_)))))))
 have kk1 : Chg [g] (w) W1 := Chg.step ((Chg.refl _).more (by simp)) ch1 trivial
 have kk2 := Chg.step kk1 ch2 ⟨.inl (by simp), trivial⟩
 have kk3 := Chg.step kk2 ch3 trivial
 have kk4 := Chg.step kk3 ch4 ⟨.inl (by simp), trivial⟩
 have kk5 := Chg.step kk4 ch5 trivial
 have kk6 := Chg.step kk5 ch6 ⟨.inl (by simp), trivial⟩
 refine Wk.retN (.tuple #[]) rfl (by kernel_rfl) ?_
 exact ⟨AA3, nn3, cc3, rfl, hgw3, own8_low ow6 (by omega), by omega, kk6⟩
theorem Wflag_any (g base : Nat) (A : Option Addr) (n c : Nat) (b : List UInt8) (fl : Bool) (w : World) (hg : w.heap[g]? = some (.cells #[.slice A n c] 97 (0, 0))) (hbs : g < base ∧ base ≤ w.heap.size) (ho : Own8 w base 5 A n c b) (hn : n ≤ 3000000) : Calls Tryd.prog 57 #[pt g 0, .bool fl] w fun e w' => ∃ A1 n1 c1, e = .returned (.tuple #[]) ∧ w'.heap[g]? = some (.cells #[.slice A1 n1 c1] 97 (0, 0)) ∧ Own8 w' w.heap.size 5 A1 n1 c1 (b ++ formN (Mur.flagN fl)) ∧ n1 ≤ n + 9 ∧ Chg [g] w w' := by
 have hgl_ := (Array.getElem?_eq_some_iff.1 hg).1
 have hon_ := ho.nc
 have hoc_ := ho.cm
 have hol_ := ho.byt.1
 have hn_ := hn
 have hbs_ := hbs
 have holt_ := ho.lt
 refine calls_of_wp Tryd.func57 rfl ?_
 refine wp_seq (reg ?_)
 refine rP 0 4 (.bool fl) ?_
 refine rEnd 1 rfl (nxt ?_)
 cases fl
 ·refine wp_cond_false (by kernel_rfl) (reg ?_)
  refine rP 0 8 (pt g 0) ?_
  refine rX 1 9 rfl rfl (new_ex (.slice (some ⟨w.heap.size, 0, none⟩) 1 1) #[.int .i64 0] 3 (by kernel_rfl)) ?_
  rintro _ W1 ⟨rfl, hb1, ch1, sz1⟩
  have zz1 := ch1.size
  refine rC 2 10 49 [.tmp 8, .tmp 9] #[95, 110] [pt g 0, .slice (some ⟨w.heap.size, 0, none⟩) 1 1] ?_
  have ow1 := Mur.own8 (own_chg ho.own ch1 (fun q e _ _ => trivial))
  refine (Wint1_any g base A n c b w.heap.size 0 W1 (Chg.hp ch1 hg trivial) ⟨by omega, by omega⟩ ow1 (by omega) hb1 (by omega)).mono ?_
  rintro _ W2 ⟨AA1, nn1, cc1, rfl, hgw1, ow2, hle1, ch2⟩
  have zz2 := ch2.size
  have hq1 := ow2.nc
  have hq2 := ow2.cm
  have hq3 := ow2.byt.1
  refine ⟨_, rfl, ?_⟩
  refine rEnd 3 rfl ?_
  have kk1 : Chg [g] (w) W1 := Chg.step ((Chg.refl _).more (by simp)) ch1 trivial
  have kk2 := Chg.step kk1 ch2 ⟨.inl (by simp), trivial⟩
  refine Wk.retN (.tuple #[]) rfl (by kernel_rfl) ?_
  exact ⟨AA1, nn1, cc1, rfl, hgw1, own8_low ow2 (by omega), by omega, kk2⟩
 refine wp_cond_true (by kernel_rfl) (reg ?_)
 refine rP 0 5 (pt g 0) ?_
 refine rX 1 6 rfl rfl (new_ex (.slice (some ⟨w.heap.size, 0, none⟩) 1 1) #[.int .i64 1] 3 (by kernel_rfl)) ?_
 rintro _ W3 ⟨rfl, hb2, ch3, sz2⟩
 have zz3 := ch3.size
 refine rC 2 7 49 [.tmp 5, .tmp 6] #[95, 110] [pt g 0, .slice (some ⟨w.heap.size, 0, none⟩) 1 1] ?_
 have ow3 := Mur.own8 (own_chg ho.own ch3 (fun q e _ _ => trivial))
 refine (Wint1_any g base A n c b w.heap.size 1 W3 (Chg.hp ch3 hg trivial) ⟨by omega, by omega⟩ ow3 (by omega) hb2 (by omega)).mono ?_
 rintro _ W4 ⟨AA2, nn2, cc2, rfl, hgw2, ow4, hle2, ch4⟩
 have zz4 := ch4.size
 have hq4 := ow4.nc
 have hq5 := ow4.cm
 have hq6 := ow4.byt.1
 refine ⟨_, rfl, ?_⟩
 refine rEnd 3 rfl ?_
 have kk3 : Chg [g] (w) W3 := Chg.step ((Chg.refl _).more (by simp)) ch3 trivial
 have kk4 := Chg.step kk3 ch4 ⟨.inl (by simp), trivial⟩
 refine Wk.retN (.tuple #[]) rfl (by kernel_rfl) ?_
 exact ⟨AA2, nn2, cc2, rfl, hgw2, own8_low ow4 (by omega), by omega, kk4⟩
theorem Wbytes_any (g base : Nat) (A : Option Addr) (n c : Nat) (b : List UInt8) (x : List UInt8) (B : Option Addr) (m d : Nat) (w : World) (hg : w.heap[g]? = some (.cells #[.slice A n c] 97 (0, 0))) (hbs : g < base ∧ base ≤ w.heap.size) (ho : Own8 w base 5 A n c b) (hn : n ≤ 3000000) (hx : Byt w B m x) (hmd : m ≤ d ∧ d ≤ 9223372036854775807) (hnil : B = none → d = 0) (hm : m ≤ 100000) (hbB : ∀ g2 off, B = some ⟨g2, off, none⟩ → 0 < m → g2 ≠ g) : Calls Tryd.prog 53 #[pt g 0, .slice B m d] w fun e w' => ∃ A1 n1 c1, e = .returned (.tuple #[]) ∧ w'.heap[g]? = some (.cells #[.slice A1 n1 c1] 97 (0, 0)) ∧ Own8 w' w.heap.size 5 A1 n1 c1 (b ++ (formN x.length ++ x)) ∧ n1 ≤ n + 9 + m ∧ Chg [g] w w' := by
 have hmd_ := hmd
 have hxl_ := hx.1
 rw [hxl_]
 have hgl_ := (Array.getElem?_eq_some_iff.1 hg).1
 have hon_ := ho.nc
 have hoc_ := ho.cm
 have hol_ := ho.byt.1
 have hn_ := hn
 have hbs_ := hbs
 have holt_ := ho.lt
 refine calls_of_wp Tryd.func53 rfl ?_
 refine wp_seq (reg ?_)
 refine rP 0 4 (pt g 0) ?_
 refine rP 1 5 (.slice B m d) ?_
 refine rP 2 6 (.int .i64 ((m : Nat) : Int)) ?_
 refine rX 3 7 rfl rfl (new_ex (.slice (some ⟨w.heap.size, 0, none⟩) 1 1) #[.int .i64 ((m : Nat) : Int)] 3 (by kernel_rfl)) ?_
 rintro _ W1 ⟨rfl, hb1, ch1, sz1⟩
 have zz1 := ch1.size
 refine rC 4 8 49 [.tmp 4, .tmp 7] #[95, 110] [pt g 0, .slice (some ⟨w.heap.size, 0, none⟩) 1 1] ?_
 have ow1 := Mur.own8 (own_chg ho.own ch1 (fun q e _ _ => trivial))
 refine (Wint1_any g base A n c b w.heap.size ((m : Nat) : Int) W1 (Chg.hp ch1 hg trivial) ⟨by omega, by omega⟩ ow1 (by omega) hb1 (by omega)).mono ?_
 rintro _ W2 ⟨AA1, nn1, cc1, rfl, hgw1, ow2, hle1, ch2⟩
 have zz2 := ch2.size
 have hq1 := ow2.nc
 have hq2 := ow2.cm
 have hq3 := ow2.byt.1
 refine ⟨_, rfl, ?_⟩
 refine rEnd 5 rfl (nxt (reg ?_))
 refine rP 0 9 (pt g 0) ?_
 refine rP 1 10 (pt g 0) ?_
 refine rP 2 11 (pt g 0) ?_
 refine rP 3 12 (pt g 0) ?_
 refine rQ 4 13 _ rfl rfl (ld 22 12 g 0 (.slice AA1 nn1 cc1) ((cell_of_row _ _ 0 _ _ _ hgw1).trans rfl)) ?_
 refine rP 5 14 (.slice B m d) ?_
 refine rX 6 15 rfl rfl (Mur.append8 (.tmp 13) (.tmp 14) 22 5 rfl Tryd.underlying22 (by kernel_rfl) W1.heap.size AA1 nn1 cc1 (b ++ formN (u64n ((m : Nat) : Int))) B m d x (by kernel_rfl) (by kernel_rfl) ow2.own (byt_chgp (byt_chgp hx ch1 (fun g off e hn hl => trivial)) ch2 (fun g off e hn hl => ⟨by have := hbB g off e hn; omega, trivial⟩)) hnil (by omega) (by omega) (nn1 + m) (by omega) ((b ++ formN (u64n ((m : Nat) : Int))) ++ x) rfl) ?_
 rintro _ W3 ⟨AA2, nn2, rfl, ow3, ch3, ha1⟩
 have zz3 := ch3.size
 have hq4 := ow3.nc
 have hq5 := ow3.cm
 refine rP 7 16 (pt g 0) ?_
 refine rP 8 17 (pt g 0) ?_
 refine rY 9 rfl rfl (store1 22 (.tmp 17) (.tmp 15) rfl (by kernel_rfl) g 0 (by kernel_rfl) (.slice AA2 (nn1 + m) nn2) (by kernel_rfl) rfl 97 #[.slice AA1 nn1 cc1] (Chg.hp ch3 hgw1 (off_blk (fun gz hgz => by have := ow2.lt gz hgz; omega))) (by simp)) ?_
 rintro W4 ⟨hb2, ch4⟩
 replace hb2 : W4.heap[g]? = some (.cells #[.slice AA2 (nn1 + m) nn2] 97 (0, 0)) := hb2
 have zz4 := ch4.size
 refine rEnd 10 rfl ?_
 have ow4 := Mur.own8 (own_chg ow3.own ch4 (fun q e _ _ => ⟨by have := ow3.lt q e; omega, trivial⟩))
 have kk1 : Chg [g] (w) W1 := Chg.step ((Chg.refl _).more (by simp)) ch1 trivial
 have kk2 := Chg.step kk1 ch2 ⟨.inl (by simp), trivial⟩
 have kk3 := Chg.step kk2 ch3 (newOr_blk (fun g hg => by have := ow2.lt g hg; omega))
 have kk4 := Chg.step kk3 ch4 ⟨.inl (by simp), trivial⟩
 have hH_ := ow4
 rw [Mur.u64n_of (by omega), List.append_assoc] at hH_
 refine Wk.retN (.tuple #[]) rfl (by kernel_rfl) ?_
 exact ⟨AA2, nn1 + m, nn2, rfl, hb2, own8_low hH_ (by omega), by omega, kk4⟩
end Go.Proofs.YtgbadghjnpbiaaaDoor
