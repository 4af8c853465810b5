/- What the row rests on, part 12. -/
import Derived.Test.YtgbadghjnpbiaaaDoorRA7
import Derived.Test.YtgbadghjnpbiaaaDoorRA6
import Derived.Test.YtgbadghjnpbiaaaDoorRA8
namespace Go.Proofs.YtgbadghjnpbiaaaDoor
open Go.RowKit Wk
open Mur (b8s Byt Own8 Seg Segs flat cutA attC Att SlA OwnA rowA msgC conv_int u64_nat readB_short i64_nat conv_u8o)
set_option maxRecDepth 100000
set_option maxHeartbeats 4000000
theorem WBytes_any (b : List UInt8) (A : Option Addr) (n c at_ : Nat) (w : World) (hb : Byt w A n b) (hnc : n ≤ c ∧ c ≤ 9223372036854775807) (hat : at_ ≤ n) (hn : n ≤ 100000) : Calls Tryd.prog 67 #[.slice A n c, .int .i64 ((at_ : Nat) : Int), .int .i64 ((n : Nat) : Int)] w fun e w' => ∃ A1 n1 c1 x nx er, e = .returned (.tuple #[.slice A1 n1 c1, .int .i64 ((nx : Nat) : Int), .int .i64 ((er : Nat) : Int)]) ∧ ((er = 0 ∧ Own8 w' w.heap.size 5 A1 n1 c1 x ∧ (at_ < nx ∧ nx ≤ n) ∧ Mur.readB (b.drop at_) = some (x, b.drop nx)) ∨ (er ≠ 0 ∧ A1 = none ∧ n1 = 0 ∧ c1 = 0 ∧ nx = 0 ∧ Mur.readB (b.drop at_) = none)) ∧ Chg [] w w' := by
 have hbl_ := hb.1
 refine calls_of_wp Tryd.func67 rfl ?_
 refine wp_seq (reg ?_)
 refine rP 0 6 (.slice none 0 0) ?_
 refine rP 1 7 (.int .i64 0) ?_
 refine rP 2 8 (.int .i64 0) ?_
 refine rEnd 3 rfl (nxt (wp_seq (reg ?_)))
 refine rP 0 11 (.slice A n c) ?_
 refine rP 1 12 (.int .i64 ((at_ : Nat) : Int)) ?_
 refine rC 2 13 66 [.tmp 11, .tmp 12] #[22, 3] [.slice A n c, .int .i64 ((at_ : Nat) : Int)] ?_
 refine (Uint_any b A n c at_ w hb ⟨by omega, by omega⟩ (by omega)).mono ?_
 rintro _ _ ⟨v1, nx1, er1, rfl, hc1, rfl⟩
 rcases hc1 with ⟨rfl, hv1, hnx1, hrd1⟩ | ⟨hv1, rfl, rfl, hrd1⟩
 ·refine ⟨_, rfl, ?_⟩
  refine rP 3 10 (.tuple #[.int .u64 ((v1 : Nat) : Int), .int .i64 ((nx1 : Nat) : Int), .int .i64 0]) ?_
  refine rP 4 14 (.int .u64 ((v1 : Nat) : Int)) ?_
  refine rP 5 15 (.int .i64 ((nx1 : Nat) : Int)) ?_
  refine rP 6 16 (.int .i64 0) ?_
  refine rP 7 9 (.int .u64 ((v1 : Nat) : Int)) ?_
  refine rP 8 1 (.int .i64 ((nx1 : Nat) : Int)) ?_
  refine rP 9 8 (.int .i64 0) ?_
  refine rEnd 10 rfl (nxt (wp_seq (wp_block (wp_seq (reg ?_)))))
  refine rP 0 18 (.int .i64 0) ?_
  refine rQ 1 19 _ rfl rfl (qboolF (b := ((0 : Int) != (0 : Int))) (bne_eq_false_iff_eq.2 (by decide))) ?_
  refine rP 2 17 (.bool false) ?_
  refine rEnd 3 rfl (nxt (wp_cond_false (by kernel_rfl) (wp_seq (reg ?_))))
  refine rP 0 22 (.int .i64 ((n : Nat) : Int)) ?_
  refine rQ 1 23 _ rfl rfl (qboolF (b := decide (((n : Nat) : Int) < (0 : Int))) (decide_eq_false (by omega))) ?_
  refine rP 2 24 (.bool false) ?_
  refine rP 3 25 (.int .u64 ((v1 : Nat) : Int)) ?_
  refine rP 4 26 (.int .i64 ((n : Nat) : Int)) ?_
  refine rQ 5 27 (.int .u64 ((n : Nat) : Int)) rfl rfl (conv_int 3 24 (.tmp 26) rfl (by kernel_rfl) .u64 Tryd.underlying24 .i64 ((n : Nat) : Int) (by kernel_rfl) (u64_nat (n := n) (by omega))) ?_
  by_cases hx1 : ((v1 : Nat) : Int) > ((n : Nat) : Int)
  ·refine rQ 6 28 _ rfl rfl (qboolT (b := decide (((v1 : Nat) : Int) > ((n : Nat) : Int))) (decide_eq_true (by first | exact hx1 | omega))) ?_
   refine rP 7 29 (.bool true) ?_
   refine rP 8 21 (.bool true) ?_
   refine rEnd 9 rfl (nxt (wp_cond_true (by kernel_rfl) (wp_seq (reg ?_))))
   refine rP 0 6 (.slice none 0 0) ?_
   refine rP 1 7 (.int .i64 0) ?_
   refine rP 2 8 (.int .i64 3) ?_
   refine rEnd 3 rfl (nxt (wp_ret (inR (thR ?_))))
   refine rt (.tuple #[.slice none 0 0, .int .i64 0, .int .i64 3]) ?_
   exact ⟨_, _, _, [], 0, 3, rfl, .inr ⟨by omega, rfl, rfl, rfl, rfl, readB_short hrd1 (by omega) (by omega)⟩, (Chg.refl _)⟩
  refine rQ 6 28 _ rfl rfl (qboolF (b := decide (((v1 : Nat) : Int) > ((n : Nat) : Int))) (decide_eq_false (by first | exact hx1 | omega))) ?_
  refine rP 7 29 (.bool false) ?_
  refine rP 8 21 (.bool false) ?_
  refine rEnd 9 rfl (nxt (wp_cond_false (by kernel_rfl) (wp_seq (reg ?_))))
  refine rP 0 31 (.int .u64 ((v1 : Nat) : Int)) ?_
  refine rP 1 32 (.slice A n c) ?_
  refine rP 2 33 (.int .i64 ((n : Nat) : Int)) ?_
  refine rP 3 34 (.int .i64 ((nx1 : Nat) : Int)) ?_
  refine rQ 4 35 _ rfl rfl (qint64 (n := ((n : Nat) : Int) - ((nx1 : Nat) : Int)) (z := ((n - nx1 : Nat) : Int)) (by omega) (by omega) (by omega)) ?_
  refine rQ 5 36 (.int .u64 ((n - nx1 : Nat) : Int)) rfl rfl (conv_int 3 24 (.tmp 35) rfl (by kernel_rfl) .u64 Tryd.underlying24 .i64 ((n - nx1 : Nat) : Int) (by kernel_rfl) (u64_nat (n := n - nx1) (by omega))) ?_
  by_cases hx2 : ((v1 : Nat) : Int) > ((n - nx1 : Nat) : Int)
  ·refine rQ 6 37 _ rfl rfl (qboolT (b := decide (((v1 : Nat) : Int) > ((n - nx1 : Nat) : Int))) (decide_eq_true (by first | exact hx2 | omega))) ?_
   refine rP 7 30 (.bool true) ?_
   refine rEnd 8 rfl (nxt (wp_cond_true (by kernel_rfl) (wp_seq (reg ?_))))
   refine rP 0 6 (.slice none 0 0) ?_
   refine rP 1 7 (.int .i64 0) ?_
   refine rP 2 8 (.int .i64 4) ?_
   refine rEnd 3 rfl (nxt (wp_ret (inR (thR ?_))))
   refine rt (.tuple #[.slice none 0 0, .int .i64 0, .int .i64 4]) ?_
   exact ⟨_, _, _, [], 0, 4, rfl, .inr ⟨by omega, rfl, rfl, rfl, rfl, readB_short hrd1 (by omega) (by omega)⟩, (Chg.refl _)⟩
  refine rQ 6 37 _ rfl rfl (qboolF (b := decide (((v1 : Nat) : Int) > ((n - nx1 : Nat) : Int))) (decide_eq_false (by first | exact hx2 | omega))) ?_
  refine rP 7 30 (.bool false) ?_
  refine rEnd 8 rfl (nxt (wp_cond_false (by kernel_rfl) (wp_skip (inN (nxt (wp_seq (reg ?_)))))))
  refine rP 0 38 (.int .i64 ((nx1 : Nat) : Int)) ?_
  refine rP 1 39 (.int .u64 ((v1 : Nat) : Int)) ?_
  refine rQ 2 40 (.int .i64 ((v1 : Nat) : Int)) rfl rfl (conv_int 24 3 (.tmp 39) rfl (by kernel_rfl) .i64 Tryd.underlying3 .u64 ((v1 : Nat) : Int) (by kernel_rfl) (i64_nat (n := v1) (by omega))) ?_
  refine rQ 3 41 _ rfl rfl (qint64 (n := ((nx1 : Nat) : Int) + ((v1 : Nat) : Int)) (z := ((nx1 + v1 : Nat) : Int)) (by omega) (by omega) (by omega)) ?_
  refine rP 4 7 (.int .i64 ((nx1 + v1 : Nat) : Int)) ?_
  refine rEnd 5 rfl (nxt (wp_seq (reg ?_)))
  refine rP 0 42 (.slice A n c) ?_
  refine rP 1 43 (.int .i64 ((nx1 : Nat) : Int)) ?_
  refine rP 2 44 (.int .i64 ((nx1 + v1 : Nat) : Int)) ?_
  obtain ⟨Ac1, hAc1⟩ : ∃ x_, x_ = Mur.cutA A c nx1 := ⟨_, rfl⟩
  have hbc1 : Byt w Ac1 (nx1 + v1 - nx1) ((b.take (nx1 + v1)).drop nx1) := by rw [hAc1]; exact Mur.Byt.cut hb nx1 (nx1 + v1) (by omega) (by omega) (by omega)
  refine rQ 3 45 (.slice Ac1 (nx1 + v1 - nx1) (c - nx1)) rfl rfl (by rw [hAc1]; exact Mur.run_op_cutF 22 (.tmp 42) (.tmp 43) (.tmp 44) rfl 5 Tryd.underlying22 (by kernel_rfl) A n c nx1 (nx1 + v1) (by kernel_rfl) (by kernel_rfl) (by kernel_rfl) (by omega) (by omega) (by omega)) ?_
  refine rX 4 46 rfl rfl (new_ex (.slice (some ⟨w.heap.size, 0, none⟩) 1 1) #[.slice Ac1 (nx1 + v1 - nx1) (c - nx1)] 22 (by kernel_rfl)) ?_
  rintro _ W1 ⟨rfl, hb1, ch1, sz1⟩
  have zz1 := ch1.size
  refine rC 5 47 86 [.tmp 46] #[127] [.slice (some ⟨w.heap.size, 0, none⟩) 1 1] ?_
  have kk1 : Chg [] w W1 := Chg.step ((Chg.refl _).more (by simp)) ch1 trivial
  have hby1 := (Mur.byt_chg hbc1 kk1 (fun g off e hl => trivial))
  refine (behind_any ([⟨Ac1, (nx1 + v1 - nx1), (c - nx1), ((b.take (nx1 + v1)).drop nx1)⟩]) (some ⟨w.heap.size, 0, none⟩) 1 1 W1 (Mur.segs_lit [⟨Ac1, (nx1 + v1 - nx1), (c - nx1), ((b.take (nx1 + v1)).drop nx1)⟩] 1 hb1 (Mur.ok_cons ⟨(show nx1 + v1 - nx1 ≤ c - nx1 by omega), (fun h_ => absurd (hAc1.symm.trans h_) (Mur.cutA_ne hb (by omega))), hby1, (show c - nx1 ≤ Go.maxLen by first | omega | (unfold Go.maxLen; omega))⟩ Mur.ok_nil) rfl) (by omega) (by show (((b.take (nx1 + v1)).drop nx1) ++ []).length ≤ _; simp only [List.length_append, List.length_nil]; have hl0 := hby1.1; omega)).mono ?_
  rintro _ W2 ⟨AA1, nn1, nn2, rfl, ow1, ch2⟩
  have zz2 := ch2.size
  rw [show Mur.flat ([⟨Ac1, (nx1 + v1 - nx1), (c - nx1), ((b.take (nx1 + v1)).drop nx1)⟩]) = ((b.take (nx1 + v1)).drop nx1) from by simp [Mur.flat]] at ow1
  have hq1 := ow1.nc
  have hq2 := ow1.cm
  refine ⟨_, rfl, ?_⟩
  refine rP 6 48 (.int .i64 ((nx1 + v1 : Nat) : Int)) ?_
  refine rP 7 6 (.slice AA1 nn1 nn2) ?_
  refine rP 8 7 (.int .i64 ((nx1 + v1 : Nat) : Int)) ?_
  refine rP 9 8 (.int .i64 0) ?_
  refine rEnd 10 rfl (nxt (wp_ret ?_))
  have kk2 := Chg.step kk1 ch2 trivial
  refine rt (.tuple #[.slice AA1 nn1 nn2, .int .i64 ((nx1 + v1 : Nat) : Int), .int .i64 0]) ?_
  exact ⟨_, _, _, _, _, 0, rfl, .inl ⟨rfl, Mur.own8_low ow1 (by omega), ⟨by omega, by omega⟩, Mur.readB_ok hrd1 (by omega)⟩, kk2⟩
 refine ⟨_, rfl, ?_⟩
 refine rP 3 10 (.tuple #[.int .u64 0, .int .i64 0, .int .i64 ((er1 : Nat) : Int)]) ?_
 refine rP 4 14 (.int .u64 0) ?_
 refine rP 5 15 (.int .i64 0) ?_
 refine rP 6 16 (.int .i64 ((er1 : Nat) : Int)) ?_
 refine rP 7 9 (.int .u64 0) ?_
 refine rP 8 1 (.int .i64 0) ?_
 refine rP 9 8 (.int .i64 ((er1 : Nat) : Int)) ?_
 refine rEnd 10 rfl (nxt (wp_seq (wp_block (wp_seq (reg ?_)))))
 refine rP 0 18 (.int .i64 ((er1 : Nat) : Int)) ?_
 refine rQ 1 19 _ rfl rfl (qboolT (b := (((er1 : Nat) : Int) != (0 : Int))) (bne_iff_ne.2 (by omega))) ?_
 refine rP 2 17 (.bool true) ?_
 refine rEnd 3 rfl (nxt (wp_cond_true (by kernel_rfl) (wp_seq (reg ?_))))
 refine rP 0 20 (.int .i64 ((er1 : Nat) : Int)) ?_
 refine rP 1 6 (.slice none 0 0) ?_
 refine rP 2 7 (.int .i64 0) ?_
 refine rP 3 8 (.int .i64 ((er1 : Nat) : Int)) ?_
 refine rEnd 4 rfl (nxt (wp_ret (inR (thR ?_))))
 refine rt (.tuple #[.slice none 0 0, .int .i64 0, .int .i64 ((er1 : Nat) : Int)]) ?_
 exact ⟨_, _, _, [], 0, er1, rfl, .inr ⟨by omega, rfl, rfl, rfl, rfl, Mur.readB_no hrd1⟩, (Chg.refl _)⟩
theorem Ruint_any (gr : Nat) (A : Option Addr) (n c : Nat) (b : List UInt8) (at_ : Nat) (bad : Bool) (w : World) (hr : w.heap[gr]? = some (.cells #[.slice A n c, .int .i64 ((at_ : Nat) : Int), .bool bad] 56 (0, 0))) (hb : Byt w A n b) (hnc : n ≤ c ∧ c ≤ 9223372036854775807) (hneb : ∀ a, A = some a → 0 < n → a.block ≠ gr) (hat : at_ ≤ n) (hn : n ≤ 100000) : Calls Tryd.prog 34 #[pt gr 0] w fun e w' => ∃ (at2 : Nat) (bad2 : Bool) (v : Nat), e = .returned (.int .u64 ((v : Nat) : Int)) ∧ (at_ ≤ at2 ∧ at2 ≤ n) ∧ w'.heap[gr]? = some (.cells #[.slice A n c, .int .i64 ((at2 : Nat) : Int), .bool bad2] 56 (0, 0)) ∧ Mur.Step Mur.readN b at_ bad at2 bad2 v ∧ v < 18446744073709551616 ∧ Chg [gr] w w' := by
 have hne : ∀ g off, A = some ⟨g, off, none⟩ → 0 < n → g ≠ gr := fun g off e hn => hneb _ e hn
 have hbl_ := hb.1
 have hn_ := hn
 have hgl_ := (Array.getElem?_eq_some_iff.1 hr).1
 refine calls_of_wp Tryd.func34 rfl ?_
 refine wp_seq (reg ?_)
 refine rP 0 2 (.int .u64 0) ?_
 refine rEnd 1 rfl (nxt (wp_seq ?_))
 refine dReg ([]) (by kernel_rfl) ?_
 intro W1 ch1 sz1
 have zz1 := ch1.size
 have sS1 : Chg ([]) W1 W1 := (Chg.refl _).more (by simp)
 refine dW 0 7 (pt gr 0) sS1 ?_
 refine dW 1 8 (pt gr 0) sS1 ?_
 refine dW 2 9 (pt gr 0) sS1 ?_
 refine dV 3 10 (.slice A n c) rfl rfl (fun w' hw' => (ld 22 9 gr 0 (.slice A n c) ((cell_of_row _ _ 0 _ _ _ (Chg.hp hw' (Chg.hp ch1 hr trivial) trivial)).trans rfl))) sS1 ?_
 refine dW 4 11 (pt gr 0) sS1 ?_
 refine dW 5 12 (pt gr 0) sS1 ?_
 refine dW 6 13 (pt gr 1) sS1 ?_
 refine dV 7 14 (.int .i64 ((at_ : Nat) : Int)) rfl rfl (fun w' hw' => (ld 3 13 gr 1 (.int .i64 ((at_ : Nat) : Int)) ((cell_of_row _ _ 1 _ _ _ (Chg.hp hw' (Chg.hp ch1 hr trivial) trivial)).trans rfl))) sS1 ?_
 refine dOp 8 (by kernel_rfl) ?_
 refine oCall (some 15) 66 [.tmp 10, .tmp 14] #[22, 3] [.slice A n c, .int .i64 ((at_ : Nat) : Int)] rfl rfl (by kernel_rfl) rfl (by kernel_rfl) (by kernel_rfl) ?_
 have kk1 : Chg [gr] (w) W1 := Chg.step ((Chg.refl _).more (by simp)) ch1 trivial
 refine (Uint_any b A n c at_ W1 (Mur.byt_chgp hb kk1 (fun g off e hn hl => ⟨by have := hne g off e hn; omega, trivial⟩)) ⟨by omega, by omega⟩ (by omega)).mono ?_
 rintro _ _ ⟨v1, nx1, er1, rfl, hc1, rfl⟩
 rcases hc1 with ⟨rfl, hv1, hnx1, hrd1⟩ | ⟨hv1, rfl, rfl, hrd1⟩
 ·refine ⟨_, rfl, sS1, ?_⟩
  refine dW 9 6 (.tuple #[.int .u64 ((v1 : Nat) : Int), .int .i64 ((nx1 : Nat) : Int), .int .i64 0]) sS1 ?_
  refine dW 10 16 (.int .u64 ((v1 : Nat) : Int)) sS1 ?_
  refine dW 11 17 (.int .i64 ((nx1 : Nat) : Int)) sS1 ?_
  refine dW 12 18 (.int .i64 0) sS1 ?_
  refine dW 13 3 (.int .u64 ((v1 : Nat) : Int)) sS1 ?_
  refine dW 14 4 (.int .i64 ((nx1 : Nat) : Int)) sS1 ?_
  refine dW 15 5 (.int .i64 0) sS1 ?_
  refine dEnd (by kernel_rfl) (nxt (wp_seq (wp_seq (reg ?_))))
  refine rP 0 19 (.int .i64 0) ?_
  refine rQ 1 20 _ rfl rfl (qboolF (b := ((0 : Int) != (0 : Int))) (bne_eq_false_iff_eq.2 (by decide))) ?_
  refine rEnd 2 rfl (nxt (wp_cond_false (by kernel_rfl) (wp_skip (nxt (wp_seq (reg ?_))))))
  refine rP 0 24 (pt gr 0) ?_
  refine rP 1 25 (.int .i64 ((nx1 : Nat) : Int)) ?_
  refine rP 2 26 (pt gr 0) ?_
  refine rP 3 27 (pt gr 1) ?_
  refine rY 4 rfl rfl (store1 3 (.tmp 27) (.tmp 25) rfl (by kernel_rfl) gr 1 (by kernel_rfl) (.int .i64 ((nx1 : Nat) : Int)) (by kernel_rfl) rfl 56 #[.slice A n c, .int .i64 ((at_ : Nat) : Int), .bool bad] (Chg.hp ch1 hr trivial) (by simp)) ?_
  rintro W2 ⟨hb1, ch2⟩
  replace hb1 : W2.heap[gr]? = some (.cells #[.slice A n c, .int .i64 ((nx1 : Nat) : Int), .bool bad] 56 (0, 0)) := hb1
  have zz2 := ch2.size
  refine rEnd 5 rfl (nxt (wp_seq (reg ?_)))
  refine rP 0 28 (.int .u64 ((v1 : Nat) : Int)) ?_
  refine rP 1 2 (.int .u64 ((v1 : Nat) : Int)) ?_
  refine rEnd 2 rfl (nxt (wp_ret ?_))
  have kk2 := Chg.step kk1 ch2 ⟨.inl (by simp), trivial⟩
  refine rt (.int .u64 ((v1 : Nat) : Int)) ?_
  exact ⟨nx1, bad, v1, rfl, ⟨by omega, by omega⟩, hb1, Mur.Step.of_ok hrd1, by omega, kk2⟩
 refine ⟨_, rfl, sS1, ?_⟩
 refine dW 9 6 (.tuple #[.int .u64 0, .int .i64 0, .int .i64 ((er1 : Nat) : Int)]) sS1 ?_
 refine dW 10 16 (.int .u64 0) sS1 ?_
 refine dW 11 17 (.int .i64 0) sS1 ?_
 refine dW 12 18 (.int .i64 ((er1 : Nat) : Int)) sS1 ?_
 refine dW 13 3 (.int .u64 0) sS1 ?_
 refine dW 14 4 (.int .i64 0) sS1 ?_
 refine dW 15 5 (.int .i64 ((er1 : Nat) : Int)) sS1 ?_
 refine dEnd (by kernel_rfl) (nxt (wp_seq (wp_seq (reg ?_))))
 refine rP 0 19 (.int .i64 ((er1 : Nat) : Int)) ?_
 refine rQ 1 20 _ rfl rfl (qboolT (b := (((er1 : Nat) : Int) != (0 : Int))) (bne_iff_ne.2 (by omega))) ?_
 refine rEnd 2 rfl (nxt (wp_cond_true (by kernel_rfl) (wp_seq (reg ?_))))
 refine rP 0 21 (pt gr 0) ?_
 refine rP 1 22 (pt gr 0) ?_
 refine rP 2 23 (pt gr 2) ?_
 refine rY 3 rfl rfl (store1 4 (.tmp 23) (.const (.bool true)) rfl (by kernel_rfl) gr 2 (by kernel_rfl) (.bool true) (by kernel_rfl) rfl 56 #[.slice A n c, .int .i64 ((at_ : Nat) : Int), .bool bad] (Chg.hp ch1 hr trivial) (by simp)) ?_
 rintro W3 ⟨hb2, ch3⟩
 replace hb2 : W3.heap[gr]? = some (.cells #[.slice A n c, .int .i64 ((at_ : Nat) : Int), .bool true] 56 (0, 0)) := hb2
 have zz3 := ch3.size
 refine rEnd 4 rfl (nxt (wp_seq (reg ?_)))
 refine rP 0 2 (.int .u64 0) ?_
 refine rEnd 1 rfl (nxt (wp_ret (thR ?_)))
 have kk3 := Chg.step kk1 ch3 ⟨.inl (by simp), trivial⟩
 refine rt (.int .u64 0) ?_
 exact ⟨at_, true, 0, rfl, ⟨by omega, by omega⟩, hb2, Mur.Step.of_no hrd1 0, by decide, kk3⟩
theorem Rint_any (gr : Nat) (A : Option Addr) (n c : Nat) (b : List UInt8) (at_ : Nat) (bad : Bool) (w : World) (hr : w.heap[gr]? = some (.cells #[.slice A n c, .int .i64 ((at_ : Nat) : Int), .bool bad] 56 (0, 0))) (hb : Byt w A n b) (hnc : n ≤ c ∧ c ≤ 9223372036854775807) (hneb : ∀ a, A = some a → 0 < n → a.block ≠ gr) (hat : at_ ≤ n) (hn : n ≤ 100000) : Calls Tryd.prog 17 #[pt gr 0] w fun e w' => ∃ (at2 : Nat) (bad2 : Bool) (v : Nat), e = .returned (.int .i64 ((v : Nat) : Int)) ∧ (at_ ≤ at2 ∧ at2 ≤ n) ∧ w'.heap[gr]? = some (.cells #[.slice A n c, .int .i64 ((at2 : Nat) : Int), .bool bad2] 56 (0, 0)) ∧ Mur.Step Mur.readI b at_ bad at2 bad2 v ∧ v ≤ 1073741824 ∧ Chg [gr] w w' := by
 have hne : ∀ g off, A = some ⟨g, off, none⟩ → 0 < n → g ≠ gr := fun g off e hn => hneb _ e hn
 have hbl_ := hb.1
 have hn_ := hn
 have hgl_ := (Array.getElem?_eq_some_iff.1 hr).1
 refine calls_of_wp Tryd.func17 rfl ?_
 refine wp_seq (reg ?_)
 refine rP 0 2 (.int .i64 0) ?_
 refine rEnd 1 rfl (nxt (wp_seq (reg ?_)))
 refine rP 0 4 (pt gr 0) ?_
 refine rC 1 5 34 [.tmp 4] #[54] [pt gr 0] ?_
 refine (Ruint_any gr A n c b at_ bad w hr hb ⟨by omega, by omega⟩ hneb (by omega) (by omega)).mono ?_
 rintro _ W1 ⟨at1, bad1, v1, rfl, hat1, hr1, hst1, hlt1, ch1⟩
 have zz1 := ch1.size
 refine ⟨_, rfl, ?_⟩
 refine rP 2 3 (.int .u64 ((v1 : Nat) : Int)) ?_
 refine rEnd 3 rfl (nxt (wp_seq (wp_seq (reg ?_))))
 refine rP 0 6 (.int .u64 ((v1 : Nat) : Int)) ?_
 by_cases hx1 : ((v1 : Nat) : Int) > (1073741824 : Int)
 ·refine rQ 1 7 _ rfl rfl (qboolT (b := decide (((v1 : Nat) : Int) > (1073741824 : Int))) (decide_eq_true (by first | exact hx1 | omega))) ?_
  refine rEnd 2 rfl (nxt (wp_cond_true (by kernel_rfl) (wp_seq (reg ?_))))
  refine rP 0 8 (pt gr 0) ?_
  refine rP 1 9 (pt gr 0) ?_
  refine rP 2 10 (pt gr 2) ?_
  refine rY 3 rfl rfl (store1 4 (.tmp 10) (.const (.bool true)) rfl (by kernel_rfl) gr 2 (by kernel_rfl) (.bool true) (by kernel_rfl) rfl 56 #[.slice A n c, .int .i64 ((at1 : Nat) : Int), .bool bad1] hr1 (by simp)) ?_
  rintro W2 ⟨hb1, ch2⟩
  replace hb1 : W2.heap[gr]? = some (.cells #[.slice A n c, .int .i64 ((at1 : Nat) : Int), .bool true] 56 (0, 0)) := hb1
  have zz2 := ch2.size
  refine rEnd 4 rfl (nxt (wp_seq (reg ?_)))
  refine rP 0 2 (.int .i64 0) ?_
  refine rEnd 1 rfl (nxt (wp_ret (thR ?_)))
  have kk1 : Chg [gr] (w) W1 := Chg.step ((Chg.refl _).more (by simp)) ch1 ⟨.inl (by simp), trivial⟩
  have kk2 := Chg.step kk1 ch2 ⟨.inl (by simp), trivial⟩
  refine rt (.int .i64 0) ?_
  exact ⟨at1, true, 0, rfl, ⟨by omega, by omega⟩, hb1, (show Mur.Step Mur.readI _ _ _ _ _ _ from Mur.Step.if_no (ok := fun n => decide (n ≤ 2 ^ 30)) hst1 (decide_eq_false (by omega)) 0), by decide, kk2⟩
 refine rQ 1 7 _ rfl rfl (qboolF (b := decide (((v1 : Nat) : Int) > (1073741824 : Int))) (decide_eq_false (by first | exact hx1 | omega))) ?_
 refine rEnd 2 rfl (nxt (wp_cond_false (by kernel_rfl) (wp_skip (nxt (wp_seq (reg ?_))))))
 refine rP 0 11 (.int .u64 ((v1 : Nat) : Int)) ?_
 refine rQ 1 12 (.int .i64 ((v1 : Nat) : Int)) rfl rfl (conv_int 24 3 (.tmp 11) rfl (by kernel_rfl) .i64 Tryd.underlying3 .u64 ((v1 : Nat) : Int) (by kernel_rfl) (i64_nat (n := v1) (by omega))) ?_
 refine rP 2 2 (.int .i64 ((v1 : Nat) : Int)) ?_
 refine rEnd 3 rfl (nxt (wp_ret ?_))
 have kk3 : Chg [gr] (w) W1 := Chg.step ((Chg.refl _).more (by simp)) ch1 ⟨.inl (by simp), trivial⟩
 refine rt (.int .i64 ((v1 : Nat) : Int)) ?_
 exact ⟨at1, bad1, v1, rfl, ⟨by omega, by omega⟩, hr1, (show Mur.Step Mur.readI _ _ _ _ _ _ from Mur.Step.if_ok (ok := fun n => decide (n ≤ 2 ^ 30)) hst1 (decide_eq_true (by omega))), by omega, kk3⟩
theorem Rkind_any (gr : Nat) (A : Option Addr) (n c : Nat) (b : List UInt8) (at_ : Nat) (bad : Bool) (w : World) (hr : w.heap[gr]? = some (.cells #[.slice A n c, .int .i64 ((at_ : Nat) : Int), .bool bad] 56 (0, 0))) (hb : Byt w A n b) (hnc : n ≤ c ∧ c ≤ 9223372036854775807) (hneb : ∀ a, A = some a → 0 < n → a.block ≠ gr) (hat : at_ ≤ n) (hn : n ≤ 100000) : Calls Tryd.prog 16 #[pt gr 0] w fun e w' => ∃ (at2 : Nat) (bad2 : Bool) (v : Nat), e = .returned (.int .u8 (((UInt8.ofNat v).toNat : Nat) : Int)) ∧ (at_ ≤ at2 ∧ at2 ≤ n) ∧ w'.heap[gr]? = some (.cells #[.slice A n c, .int .i64 ((at2 : Nat) : Int), .bool bad2] 56 (0, 0)) ∧ Mur.Step Mur.readK b at_ bad at2 bad2 v ∧ v ≤ 1073741824 ∧ Chg [gr] w w' := by
 have hne : ∀ g off, A = some ⟨g, off, none⟩ → 0 < n → g ≠ gr := fun g off e hn => hneb _ e hn
 have hbl_ := hb.1
 have hn_ := hn
 have hgl_ := (Array.getElem?_eq_some_iff.1 hr).1
 refine calls_of_wp Tryd.func16 rfl ?_
 refine wp_seq (reg ?_)
 refine rP 0 2 (.int .u8 0) ?_
 refine rEnd 1 rfl (nxt (wp_seq (reg ?_)))
 refine rP 0 4 (pt gr 0) ?_
 refine rC 1 5 17 [.tmp 4] #[54] [pt gr 0] ?_
 refine (Rint_any gr A n c b at_ bad w hr hb ⟨by omega, by omega⟩ hneb (by omega) (by omega)).mono ?_
 rintro _ W1 ⟨at1, bad1, v1, rfl, hat1, hr1, hst1, hlt1, ch1⟩
 have zz1 := ch1.size
 refine ⟨_, rfl, ?_⟩
 refine rP 2 3 (.int .i64 ((v1 : Nat) : Int)) ?_
 refine rEnd 3 rfl (nxt (wp_seq (wp_seq (reg ?_))))
 refine rP 0 6 (.int .i64 ((v1 : Nat) : Int)) ?_
 by_cases hx1 : ((v1 : Nat) : Int) > (255 : Int)
 ·refine rQ 1 7 _ rfl rfl (qboolT (b := decide (((v1 : Nat) : Int) > (255 : Int))) (decide_eq_true (by first | exact hx1 | omega))) ?_
  refine rEnd 2 rfl (nxt (wp_cond_true (by kernel_rfl) (reg ?_)))
  refine rP 0 8 (pt gr 0) ?_
  refine rP 1 9 (pt gr 0) ?_
  refine rP 2 10 (pt gr 2) ?_
  refine rY 3 rfl rfl (store1 4 (.tmp 10) (.const (.bool true)) rfl (by kernel_rfl) gr 2 (by kernel_rfl) (.bool true) (by kernel_rfl) rfl 56 #[.slice A n c, .int .i64 ((at1 : Nat) : Int), .bool bad1] hr1 (by simp)) ?_
  rintro W2 ⟨hb1, ch2⟩
  replace hb1 : W2.heap[gr]? = some (.cells #[.slice A n c, .int .i64 ((at1 : Nat) : Int), .bool true] 56 (0, 0)) := hb1
  have zz2 := ch2.size
  refine rEnd 4 rfl (nxt (wp_seq (reg ?_)))
  refine rP 0 11 (.int .i64 ((v1 : Nat) : Int)) ?_
  refine rQ 1 12 (.int .u8 (((UInt8.ofNat v1).toNat : Nat) : Int)) rfl rfl (conv_u8o 3 5 (.tmp 11) rfl (by kernel_rfl) Tryd.underlying5 .i64 v1 (by kernel_rfl)) ?_
  refine rP 2 2 (.int .u8 (((UInt8.ofNat v1).toNat : Nat) : Int)) ?_
  refine rEnd 3 rfl (nxt (wp_ret ?_))
  have kk1 : Chg [gr] (w) W1 := Chg.step ((Chg.refl _).more (by simp)) ch1 ⟨.inl (by simp), trivial⟩
  have kk2 := Chg.step kk1 ch2 ⟨.inl (by simp), trivial⟩
  refine rt (.int .u8 (((UInt8.ofNat v1).toNat : Nat) : Int)) ?_
  exact ⟨at1, true, v1, rfl, ⟨by omega, by omega⟩, hb1, (show Mur.Step Mur.readK _ _ _ _ _ _ from Mur.Step.if_no (ok := fun n => decide (n ≤ 255)) hst1 (decide_eq_false (by omega)) _), by omega, kk2⟩
 refine rQ 1 7 _ rfl rfl (qboolF (b := decide (((v1 : Nat) : Int) > (255 : Int))) (decide_eq_false (by first | exact hx1 | omega))) ?_
 refine rEnd 2 rfl (nxt (wp_cond_false (by kernel_rfl) (wp_skip (nxt (wp_seq (reg ?_))))))
 refine rP 0 11 (.int .i64 ((v1 : Nat) : Int)) ?_
 refine rQ 1 12 (.int .u8 (((UInt8.ofNat v1).toNat : Nat) : Int)) rfl rfl (conv_u8o 3 5 (.tmp 11) rfl (by kernel_rfl) Tryd.underlying5 .i64 v1 (by kernel_rfl)) ?_
 refine rP 2 2 (.int .u8 (((UInt8.ofNat v1).toNat : Nat) : Int)) ?_
 refine rEnd 3 rfl (nxt (wp_ret ?_))
 have kk3 : Chg [gr] (w) W1 := Chg.step ((Chg.refl _).more (by simp)) ch1 ⟨.inl (by simp), trivial⟩
 refine rt (.int .u8 (((UInt8.ofNat v1).toNat : Nat) : Int)) ?_
 exact ⟨at1, bad1, v1, rfl, ⟨by omega, by omega⟩, hr1, (show Mur.Step Mur.readK _ _ _ _ _ _ from Mur.Step.if_ok (ok := fun n => decide (n ≤ 255)) hst1 (decide_eq_true (by omega))), by omega, kk3⟩
theorem Rflag_any (gr : Nat) (A : Option Addr) (n c : Nat) (b : List UInt8) (at_ : Nat) (bad : Bool) (w : World) (hr : w.heap[gr]? = some (.cells #[.slice A n c, .int .i64 ((at_ : Nat) : Int), .bool bad] 56 (0, 0))) (hb : Byt w A n b) (hnc : n ≤ c ∧ c ≤ 9223372036854775807) (hneb : ∀ a, A = some a → 0 < n → a.block ≠ gr) (hat : at_ ≤ n) (hn : n ≤ 100000) : Calls Tryd.prog 40 #[pt gr 0] w fun e w' => ∃ (at2 : Nat) (bad2 : Bool) (fl : Bool), e = .returned (.bool fl) ∧ (at_ ≤ at2 ∧ at2 ≤ n) ∧ w'.heap[gr]? = some (.cells #[.slice A n c, .int .i64 ((at2 : Nat) : Int), .bool bad2] 56 (0, 0)) ∧ Mur.Step Mur.readFlag b at_ bad at2 bad2 fl ∧ Chg [gr] w w' := by
 have hne : ∀ g off, A = some ⟨g, off, none⟩ → 0 < n → g ≠ gr := fun g off e hn => hneb _ e hn
 have hbl_ := hb.1
 have hn_ := hn
 have hgl_ := (Array.getElem?_eq_some_iff.1 hr).1
 refine calls_of_wp Tryd.func40 rfl ?_
 refine wp_seq (reg ?_)
 refine rP 0 2 (.bool false) ?_
 refine rEnd 1 rfl (nxt (wp_seq (reg ?_)))
 refine rP 0 4 (pt gr 0) ?_
 refine rC 1 5 17 [.tmp 4] #[54] [pt gr 0] ?_
 refine (Rint_any gr A n c b at_ bad w hr hb ⟨by omega, by omega⟩ hneb (by omega) (by omega)).mono ?_
 rintro _ W1 ⟨at1, bad1, v1, rfl, hat1, hr1, hst1, hlt1, ch1⟩
 have zz1 := ch1.size
 refine ⟨_, rfl, ?_⟩
 refine rP 2 3 (.int .i64 ((v1 : Nat) : Int)) ?_
 refine rEnd 3 rfl (nxt (wp_seq (wp_seq (reg ?_))))
 refine rP 0 6 (.int .i64 ((v1 : Nat) : Int)) ?_
 by_cases hx1 : ((v1 : Nat) : Int) > (1 : Int)
 ·refine rQ 1 7 _ rfl rfl (qboolT (b := decide (((v1 : Nat) : Int) > (1 : Int))) (decide_eq_true (by first | exact hx1 | omega))) ?_
  refine rEnd 2 rfl (nxt (wp_cond_true (by kernel_rfl) (reg ?_)))
  refine rP 0 8 (pt gr 0) ?_
  refine rP 1 9 (pt gr 0) ?_
  refine rP 2 10 (pt gr 2) ?_
  refine rY 3 rfl rfl (store1 4 (.tmp 10) (.const (.bool true)) rfl (by kernel_rfl) gr 2 (by kernel_rfl) (.bool true) (by kernel_rfl) rfl 56 #[.slice A n c, .int .i64 ((at1 : Nat) : Int), .bool bad1] hr1 (by simp)) ?_
  rintro W2 ⟨hb1, ch2⟩
  replace hb1 : W2.heap[gr]? = some (.cells #[.slice A n c, .int .i64 ((at1 : Nat) : Int), .bool true] 56 (0, 0)) := hb1
  have zz2 := ch2.size
  refine rEnd 4 rfl (nxt (wp_seq (reg ?_)))
  refine rP 0 11 (.int .i64 ((v1 : Nat) : Int)) ?_
  by_cases hx2 : ((v1 : Nat) : Int) = (1 : Int)
  ·refine rQ 1 12 _ rfl rfl (qboolT (b := (((v1 : Nat) : Int) == (1 : Int))) (beq_iff_eq.2 (by first | exact hx2 | omega))) ?_
   refine rP 2 2 (.bool true) ?_
   refine rEnd 3 rfl (nxt (wp_ret ?_))
   have kk1 : Chg [gr] (w) W1 := Chg.step ((Chg.refl _).more (by simp)) ch1 ⟨.inl (by simp), trivial⟩
   have kk2 := Chg.step kk1 ch2 ⟨.inl (by simp), trivial⟩
   refine rt (.bool true) ?_
   exact ⟨at1, true, true, rfl, ⟨by omega, by omega⟩, hb1, (show Mur.Step Mur.readFlag _ _ _ _ _ _ from Mur.Step.map' (Mur.Step.if_no (ok := fun n => decide (n ≤ 1)) hst1 (decide_eq_false (by omega)) v1) (fun n : Nat => decide (n = 1)) (decide_eq_true (by omega))), kk2⟩
  refine rQ 1 12 _ rfl rfl (qboolF (b := (((v1 : Nat) : Int) == (1 : Int))) (beq_eq_false_iff_ne.2 (by first | exact hx2 | omega))) ?_
  refine rP 2 2 (.bool false) ?_
  refine rEnd 3 rfl (nxt (wp_ret ?_))
  have kk3 : Chg [gr] (w) W1 := Chg.step ((Chg.refl _).more (by simp)) ch1 ⟨.inl (by simp), trivial⟩
  have kk4 := Chg.step kk3 ch2 ⟨.inl (by simp), trivial⟩
  refine rt (.bool false) ?_
  exact ⟨at1, true, false, rfl, ⟨by omega, by omega⟩, hb1, (show Mur.Step Mur.readFlag _ _ _ _ _ _ from Mur.Step.map' (Mur.Step.if_no (ok := fun n => decide (n ≤ 1)) hst1 (decide_eq_false (by omega)) v1) (fun n : Nat => decide (n = 1)) (decide_eq_false (by omega))), kk4⟩
 refine rQ 1 7 _ rfl rfl (qboolF (b := decide (((v1 : Nat) : Int) > (1 : Int))) (decide_eq_false (by first | exact hx1 | omega))) ?_
 refine rEnd 2 rfl (nxt (wp_cond_false (by kernel_rfl) (wp_skip (nxt (wp_seq (reg ?_))))))
 refine rP 0 11 (.int .i64 ((v1 : Nat) : Int)) ?_
 by_cases hx3 : ((v1 : Nat) : Int) = (1 : Int)
 ·refine rQ 1 12 _ rfl rfl (qboolT (b := (((v1 : Nat) : Int) == (1 : Int))) (beq_iff_eq.2 (by first | exact hx3 | omega))) ?_
  refine rP 2 2 (.bool true) ?_
  refine rEnd 3 rfl (nxt (wp_ret ?_))
  have kk5 : Chg [gr] (w) W1 := Chg.step ((Chg.refl _).more (by simp)) ch1 ⟨.inl (by simp), trivial⟩
  refine rt (.bool true) ?_
  exact ⟨at1, bad1, true, rfl, ⟨by omega, by omega⟩, hr1, (show Mur.Step Mur.readFlag _ _ _ _ _ _ from Mur.Step.map' (Mur.Step.if_ok (ok := fun n => decide (n ≤ 1)) hst1 (decide_eq_true (by omega))) (fun n : Nat => decide (n = 1)) (decide_eq_true (by omega))), kk5⟩
 refine rQ 1 12 _ rfl rfl (qboolF (b := (((v1 : Nat) : Int) == (1 : Int))) (beq_eq_false_iff_ne.2 (by first | exact hx3 | omega))) ?_
 refine rP 2 2 (.bool false) ?_
 refine rEnd 3 rfl (nxt (wp_ret ?_))
 have kk6 : Chg [gr] (w) W1 := Chg.step ((Chg.refl _).more (by simp)) ch1 ⟨.inl (by simp), trivial⟩
 refine rt (.bool false) ?_
 exact ⟨at1, bad1, false, rfl, ⟨by omega, by omega⟩, hr1, (show Mur.Step Mur.readFlag _ _ _ _ _ _ from Mur.Step.map' (Mur.Step.if_ok (ok := fun n => decide (n ≤ 1)) hst1 (decide_eq_true (by omega))) (fun n : Nat => decide (n = 1)) (decide_eq_false (by omega))), kk6⟩
end Go.Proofs.YtgbadghjnpbiaaaDoor
namespace Go.Proofs.YtgbadghjnpbiaaaDoor
open Go.RowKit Wk
open Mur (b8s Byt Own8 Seg Segs flat cutA attC Att SlA OwnA rowA msgC byt_chgp b8s_length z32 attC_size sub_len attC_all)
set_option maxRecDepth 100000
set_option maxHeartbeats 4000000
theorem Rbytes_of (gr : Nat) (A : Option Addr) (n c : Nat) (b : List UInt8) (at_ : Nat) (bad : Bool) (w : World) (hr : w.heap[gr]? = some (.cells #[.slice A n c, .int .i64 ((at_ : Nat) : Int), .bool bad] 56 (0, 0))) (hb : Byt w A n b) (hnc : n ≤ c ∧ c ≤ 9223372036854775807) (hneb : ∀ a, A = some a → 0 < n → a.block ≠ gr) (hat : at_ ≤ n) (hn : n ≤ 100000) : Calls Tryd.prog 37 #[pt gr 0] w fun e w' => ∃ (at2 : Nat) (bad2 : Bool) (A1 : Option Addr) (n1 c1 : Nat) (x : List UInt8), e = .returned (.slice A1 n1 c1) ∧ (at_ ≤ at2 ∧ at2 ≤ n) ∧ w'.heap[gr]? = some (.cells #[.slice A n c, .int .i64 ((at2 : Nat) : Int), .bool bad2] 56 (0, 0)) ∧ Mur.Step Mur.readB b at_ bad at2 bad2 x ∧ Own8 w' w.heap.size 5 A1 n1 c1 x ∧ Chg [gr] w w' := by
 have hne : ∀ g off, A = some ⟨g, off, none⟩ → 0 < n → g ≠ gr := fun g off e hn => hneb _ e hn
 have hbl_ := hb.1
 have hn_ := hn
 have hgl_ := (Array.getElem?_eq_some_iff.1 hr).1
 refine calls_of_wp Tryd.func37 rfl ?_
 refine wp_seq (reg ?_)
 refine rP 0 2 (.slice none 0 0) ?_
 refine rEnd 1 rfl (nxt (wp_seq ?_))
 refine dReg ([]) (by kernel_rfl) ?_
 intro W1 ch1 sz1
 have zz1 := ch1.size
 have sS1 : Chg ([]) W1 W1 := (Chg.refl _).more (by simp)
 refine dW 0 7 (pt gr 0) sS1 ?_
 refine dW 1 8 (pt gr 0) sS1 ?_
 refine dW 2 9 (pt gr 0) sS1 ?_
 refine dV 3 10 (.slice A n c) rfl rfl (fun w' hw' => (ld 22 9 gr 0 (.slice A n c) ((cell_of_row _ _ 0 _ _ _ (Chg.hp hw' (Chg.hp ch1 hr trivial) trivial)).trans rfl))) sS1 ?_
 refine dW 4 11 (pt gr 0) sS1 ?_
 refine dW 5 12 (pt gr 0) sS1 ?_
 refine dW 6 13 (pt gr 1) sS1 ?_
 refine dV 7 14 (.int .i64 ((at_ : Nat) : Int)) rfl rfl (fun w' hw' => (ld 3 13 gr 1 (.int .i64 ((at_ : Nat) : Int)) ((cell_of_row _ _ 1 _ _ _ (Chg.hp hw' (Chg.hp ch1 hr trivial) trivial)).trans rfl))) sS1 ?_
 refine dW 8 15 (pt gr 0) sS1 ?_
 refine dW 9 16 (pt gr 0) sS1 ?_
 refine dW 10 17 (pt gr 0) sS1 ?_
 refine dV 11 18 (.slice A n c) rfl rfl (fun w' hw' => (ld 22 17 gr 0 (.slice A n c) ((cell_of_row _ _ 0 _ _ _ (Chg.hp hw' (Chg.hp ch1 hr trivial) trivial)).trans rfl))) sS1 ?_
 refine dW 12 19 (.int .i64 ((n : Nat) : Int)) sS1 ?_
 refine dOp 13 (by kernel_rfl) ?_
 refine oCall (some 20) 67 [.tmp 10, .tmp 14, .tmp 19] #[22, 3, 3] [.slice A n c, .int .i64 ((at_ : Nat) : Int), .int .i64 ((n : Nat) : Int)] rfl rfl (by kernel_rfl) rfl (by kernel_rfl) (by kernel_rfl) ?_
 have kk1 : Chg [gr] (w) W1 := Chg.step ((Chg.refl _).more (by simp)) ch1 trivial
 refine (WBytes_any b A n c at_ W1 (byt_chgp hb kk1 (fun g off e hn hl => ⟨by have := hne g off e hn; omega, trivial⟩)) ⟨by omega, by omega⟩ (by omega) (by omega)).mono ?_
 rintro _ W2 ⟨AA1, nn1, cc1, x1, nx1, er1, rfl, hc1, ch2⟩
 have zz2 := ch2.size
 rcases hc1 with ⟨rfl, ow1, hnx1, hrd1⟩ | ⟨hnx1, rfl, rfl, rfl, rfl, hrd1⟩
 ·have sS2 := Chg.step sS1 ch2 trivial
  refine ⟨_, rfl, sS2, ?_⟩
  refine dW 14 6 (.tuple #[.slice AA1 nn1 cc1, .int .i64 ((nx1 : Nat) : Int), .int .i64 0]) sS2 ?_
  refine dW 15 21 (.slice AA1 nn1 cc1) sS2 ?_
  refine dW 16 22 (.int .i64 ((nx1 : Nat) : Int)) sS2 ?_
  refine dW 17 23 (.int .i64 0) sS2 ?_
  refine dW 18 3 (.slice AA1 nn1 cc1) sS2 ?_
  refine dW 19 4 (.int .i64 ((nx1 : Nat) : Int)) sS2 ?_
  refine dW 20 5 (.int .i64 0) sS2 ?_
  refine dEnd (by kernel_rfl) (nxt (wp_seq (wp_seq (reg ?_))))
  refine rP 0 24 (.int .i64 0) ?_
  refine rQ 1 25 _ rfl rfl (qboolF (b := ((0 : Int) != (0 : Int))) (bne_eq_false_iff_eq.2 (by decide))) ?_
  refine rEnd 2 rfl (nxt (wp_cond_false (by kernel_rfl) (wp_skip (nxt (wp_seq (reg ?_))))))
  refine rP 0 29 (pt gr 0) ?_
  refine rP 1 30 (.int .i64 ((nx1 : Nat) : Int)) ?_
  refine rP 2 31 (pt gr 0) ?_
  refine rP 3 32 (pt gr 1) ?_
  refine rY 4 rfl rfl (store1 3 (.tmp 32) (.tmp 30) rfl (by kernel_rfl) gr 1 (by kernel_rfl) (.int .i64 ((nx1 : Nat) : Int)) (by kernel_rfl) rfl 56 #[.slice A n c, .int .i64 ((at_ : Nat) : Int), .bool bad] (Chg.hp ch2 (Chg.hp ch1 hr trivial) trivial) (by simp)) ?_
  rintro W3 ⟨hb1, ch3⟩
  replace hb1 : W3.heap[gr]? = some (.cells #[.slice A n c, .int .i64 ((nx1 : Nat) : Int), .bool bad] 56 (0, 0)) := hb1
  have zz3 := ch3.size
  refine rEnd 5 rfl (nxt (wp_seq (reg ?_)))
  refine rP 0 33 (.slice AA1 nn1 cc1) ?_
  refine rP 1 2 (.slice AA1 nn1 cc1) ?_
  refine rEnd 2 rfl (nxt (wp_ret ?_))
  have ow2 := Mur.own8 (own_chg ow1.own ch3 (fun q e _ _ => ⟨by have := ow1.lt q e; omega, trivial⟩))
  have kk2 := Chg.step kk1 ch2 trivial
  have kk3 := Chg.step kk2 ch3 ⟨.inl (by simp), trivial⟩
  refine rt (.slice AA1 nn1 cc1) ?_
  exact ⟨nx1, bad, AA1, nn1, cc1, x1, rfl, ⟨by omega, by omega⟩, hb1, Mur.Step.of_ok hrd1, Mur.own8_low ow2 (by omega), kk3⟩
 have sS3 := Chg.step sS1 ch2 trivial
 refine ⟨_, rfl, sS3, ?_⟩
 refine dW 14 6 (.tuple #[.slice none 0 0, .int .i64 0, .int .i64 ((er1 : Nat) : Int)]) sS3 ?_
 refine dW 15 21 (.slice none 0 0) sS3 ?_
 refine dW 16 22 (.int .i64 0) sS3 ?_
 refine dW 17 23 (.int .i64 ((er1 : Nat) : Int)) sS3 ?_
 refine dW 18 3 (.slice none 0 0) sS3 ?_
 refine dW 19 4 (.int .i64 0) sS3 ?_
 refine dW 20 5 (.int .i64 ((er1 : Nat) : Int)) sS3 ?_
 refine dEnd (by kernel_rfl) (nxt (wp_seq (wp_seq (reg ?_))))
 refine rP 0 24 (.int .i64 ((er1 : Nat) : Int)) ?_
 refine rQ 1 25 _ rfl rfl (qboolT (b := (((er1 : Nat) : Int) != (0 : Int))) (bne_iff_ne.2 (by omega))) ?_
 refine rEnd 2 rfl (nxt (wp_cond_true (by kernel_rfl) (wp_seq (reg ?_))))
 refine rP 0 26 (pt gr 0) ?_
 refine rP 1 27 (pt gr 0) ?_
 refine rP 2 28 (pt gr 2) ?_
 refine rY 3 rfl rfl (store1 4 (.tmp 28) (.const (.bool true)) rfl (by kernel_rfl) gr 2 (by kernel_rfl) (.bool true) (by kernel_rfl) rfl 56 #[.slice A n c, .int .i64 ((at_ : Nat) : Int), .bool bad] (Chg.hp ch2 (Chg.hp ch1 hr trivial) trivial) (by simp)) ?_
 rintro W4 ⟨hb2, ch4⟩
 replace hb2 : W4.heap[gr]? = some (.cells #[.slice A n c, .int .i64 ((at_ : Nat) : Int), .bool true] 56 (0, 0)) := hb2
 have zz4 := ch4.size
 refine rEnd 4 rfl (nxt (wp_seq (reg ?_)))
 refine rP 0 2 (.slice none 0 0) ?_
 refine rEnd 1 rfl (nxt (wp_ret (thR ?_)))
 have kk4 := Chg.step kk1 ch2 trivial
 have kk5 := Chg.step kk4 ch4 ⟨.inl (by simp), trivial⟩
 refine rt (.slice none 0 0) ?_
 exact ⟨at_, true, none, 0, 0, [], rfl, ⟨by omega, by omega⟩, hb2, Mur.Step.of_no hrd1 [], Mur.own8_nil _ _ _, kk5⟩
theorem Rsome_any0 (gr : Nat) (A : Option Addr) (n c : Nat) (b : List UInt8) (at_ : Nat) (bad : Bool) (w : World) (hr : w.heap[gr]? = some (.cells #[.slice A n c, .int .i64 ((at_ : Nat) : Int), .bool bad] 56 (0, 0))) (hb : Byt w A n b) (hnc : n ≤ c ∧ c ≤ 9223372036854775807) (hneb : ∀ a, A = some a → 0 < n → a.block ≠ gr) (hat : at_ ≤ n) (hn : n ≤ 100000) (k : Nat) (hk : k ≤ 1000) : Calls Tryd.prog 42 #[pt gr 0, .int .i64 ((k : Nat) : Int)] w fun e w' => ∃ (at2 : Nat) (bad2 : Bool) (A1 : Option Addr) (n1 c1 : Nat) (x : List UInt8), e = .returned (.slice A1 n1 c1) ∧ (at_ ≤ at2 ∧ at2 ≤ n) ∧ w'.heap[gr]? = some (.cells #[.slice A n c, .int .i64 ((at2 : Nat) : Int), .bool bad2] 56 (0, 0)) ∧ Mur.Step (Mur.readS k) b at_ bad at2 bad2 x ∧ (n1 = k ∧ Byt w' A1 n1 x ∧ n1 ≤ c1 ∧ c1 ≤ 9223372036854775807) ∧ Chg [gr] w w' := by
 have hne : ∀ g off, A = some ⟨g, off, none⟩ → 0 < n → g ≠ gr := fun g off e hn => hneb _ e hn
 have hbl_ := hb.1
 have hn_ := hn
 have hgl_ := (Array.getElem?_eq_some_iff.1 hr).1
 refine calls_of_wp Tryd.func42 rfl ?_
 refine wp_seq (reg ?_)
 refine rP 0 4 (.slice none 0 0) ?_
 refine rEnd 1 rfl (nxt (wp_seq (wp_seq ?_)))
 refine dReg ([]) (by kernel_rfl) ?_
 intro W1 ch1 sz1
 have zz1 := ch1.size
 have sS1 : Chg ([]) W1 W1 := (Chg.refl _).more (by simp)
 refine dW 0 5 (pt gr 0) sS1 ?_
 refine dW 1 6 (pt gr 0) sS1 ?_
 refine dW 2 7 (pt gr 0) sS1 ?_
 refine dV 3 8 (.slice A n c) rfl rfl (fun w' hw' => (ld 22 7 gr 0 (.slice A n c) ((cell_of_row _ _ 0 _ _ _ (Chg.hp hw' (Chg.hp ch1 hr trivial) trivial)).trans rfl))) sS1 ?_
 refine dW 4 9 (.int .i64 ((n : Nat) : Int)) sS1 ?_
 refine dW 5 10 (pt gr 0) sS1 ?_
 refine dW 6 11 (pt gr 0) sS1 ?_
 refine dW 7 12 (pt gr 1) sS1 ?_
 refine dV 8 13 (.int .i64 ((at_ : Nat) : Int)) rfl rfl (fun w' hw' => (ld 3 12 gr 1 (.int .i64 ((at_ : Nat) : Int)) ((cell_of_row _ _ 1 _ _ _ (Chg.hp hw' (Chg.hp ch1 hr trivial) trivial)).trans rfl))) sS1 ?_
 refine dV 9 14 (.int .i64 ((n - at_ : Nat) : Int)) rfl rfl (fun w' hw' => (int64 (n := ((n : Nat) : Int) - ((at_ : Nat) : Int)) (z := ((n - at_ : Nat) : Int)) (by omega) (by omega) (by omega) (by kernel_rfl))) sS1 ?_
 refine dW 10 15 (.int .i64 ((k : Nat) : Int)) sS1 ?_
 by_cases hx1 : ((n - at_ : Nat) : Int) < ((k : Nat) : Int)
 ·refine dV 11 16 (.bool true) rfl rfl (fun w' hw' => (boolT (b := decide (((n - at_ : Nat) : Int) < ((k : Nat) : Int))) (decide_eq_true (by first | exact hx1 | omega)) (by kernel_rfl))) sS1 ?_
  refine dEnd (by kernel_rfl) (nxt (wp_cond_true (by kernel_rfl) (wp_seq (reg ?_))))
  refine rP 0 17 (pt gr 0) ?_
  refine rP 1 18 (pt gr 0) ?_
  refine rP 2 19 (pt gr 2) ?_
  refine rY 3 rfl rfl (store1 4 (.tmp 19) (.const (.bool true)) rfl (by kernel_rfl) gr 2 (by kernel_rfl) (.bool true) (by kernel_rfl) rfl 56 #[.slice A n c, .int .i64 ((at_ : Nat) : Int), .bool bad] (Chg.hp ch1 hr trivial) (by simp)) ?_
  rintro W2 ⟨hb1, ch2⟩
  replace hb1 : W2.heap[gr]? = some (.cells #[.slice A n c, .int .i64 ((at_ : Nat) : Int), .bool true] 56 (0, 0)) := hb1
  have zz2 := ch2.size
  refine rEnd 4 rfl (nxt (wp_seq (reg ?_)))
  refine rP 0 20 (.int .i64 ((k : Nat) : Int)) ?_
  refine rX 1 21 rfl rfl (Mur.makeZ 22 5 (.tmp 20) rfl Tryd.underlying22 (by kernel_rfl) k (by omega) (by kernel_rfl)) ?_
  rintro _ W3 ⟨rfl, hb2, ch3, sz2⟩
  have zz3 := ch3.size
  refine rP 2 4 (.slice (some ⟨W2.heap.size, 0, none⟩) k k) ?_
  refine rEnd 3 rfl (nxt (wp_ret (thR ?_)))
  have hbz1 : Byt W3 (some ⟨W2.heap.size, 0, none⟩) k (List.replicate k 0) := (Mur.byt_blk (List.replicate k 0) (by simp) hb2)
  have kk1 : Chg [gr] (w) W1 := Chg.step ((Chg.refl _).more (by simp)) ch1 trivial
  have kk2 := Chg.step kk1 ch2 ⟨.inl (by simp), trivial⟩
  have kk3 := Chg.step kk2 ch3 trivial
  refine rt (.slice (some ⟨W2.heap.size, 0, none⟩) k k) ?_
  exact ⟨at_, true, some ⟨W2.heap.size, 0, none⟩, _, k, _, rfl, ⟨by omega, by omega⟩, (Chg.hp ch3 hb1 trivial), Mur.Step.of_no (Mur.readS_no (by omega) (by omega)) _, ⟨rfl, hbz1, by omega, by omega⟩, kk3⟩
 refine dV 11 16 (.bool false) rfl rfl (fun w' hw' => (boolF (b := decide (((n - at_ : Nat) : Int) < ((k : Nat) : Int))) (decide_eq_false (by first | exact hx1 | omega)) (by kernel_rfl))) sS1 ?_
 refine dEnd (by kernel_rfl) (nxt (wp_cond_false (by kernel_rfl) (wp_skip (nxt (wp_seq (reg ?_))))))
 refine rP 0 22 (pt gr 0) ?_
 refine rP 1 23 (pt gr 0) ?_
 refine rP 2 24 (pt gr 1) ?_
 refine rQ 3 25 _ rfl rfl (ld 3 24 gr 1 (.int .i64 ((at_ : Nat) : Int)) ((cell_of_row _ _ 1 _ _ _ (Chg.hp ch1 hr trivial)).trans rfl)) ?_
 refine rP 4 26 (.int .i64 ((k : Nat) : Int)) ?_
 refine rQ 5 27 _ rfl rfl (qint64 (n := ((at_ : Nat) : Int) + ((k : Nat) : Int)) (z := ((at_ + k : Nat) : Int)) (by omega) (by omega) (by omega)) ?_
 refine rP 6 28 (pt gr 0) ?_
 refine rP 7 29 (pt gr 1) ?_
 refine rY 8 rfl rfl (store1 3 (.tmp 29) (.tmp 27) rfl (by kernel_rfl) gr 1 (by kernel_rfl) (.int .i64 ((at_ + k : Nat) : Int)) (by kernel_rfl) rfl 56 #[.slice A n c, .int .i64 ((at_ : Nat) : Int), .bool bad] (Chg.hp ch1 hr trivial) (by simp)) ?_
 rintro W4 ⟨hb3, ch4⟩
 replace hb3 : W4.heap[gr]? = some (.cells #[.slice A n c, .int .i64 ((at_ + k : Nat) : Int), .bool bad] 56 (0, 0)) := hb3
 have zz4 := ch4.size
 refine rEnd 9 rfl (nxt (wp_seq ?_))
 refine dReg ([]) (by kernel_rfl) ?_
 intro W5 ch5 sz3
 have zz5 := ch5.size
 have sS2 : Chg ([]) W5 W5 := (Chg.refl _).more (by simp)
 refine dW 0 30 (pt gr 0) sS2 ?_
 refine dW 1 31 (pt gr 0) sS2 ?_
 refine dW 2 32 (pt gr 0) sS2 ?_
 refine dV 3 33 (.slice A n c) rfl rfl (fun w' hw' => (ld 22 32 gr 0 (.slice A n c) ((cell_of_row _ _ 0 _ _ _ (Chg.hp hw' (Chg.hp ch5 hb3 trivial) trivial)).trans rfl))) sS2 ?_
 refine dW 4 34 (pt gr 0) sS2 ?_
 refine dW 5 35 (pt gr 0) sS2 ?_
 refine dW 6 36 (pt gr 1) sS2 ?_
 refine dV 7 37 (.int .i64 ((at_ + k : Nat) : Int)) rfl rfl (fun w' hw' => (ld 3 36 gr 1 (.int .i64 ((at_ + k : Nat) : Int)) ((cell_of_row _ _ 1 _ _ _ (Chg.hp hw' (Chg.hp ch5 hb3 trivial) trivial)).trans rfl))) sS2 ?_
 refine dW 8 38 (.int .i64 ((k : Nat) : Int)) sS2 ?_
 refine dV 9 39 (.int .i64 ((at_ : Nat) : Int)) rfl rfl (fun w' hw' => (int64 (n := ((at_ + k : Nat) : Int) - ((k : Nat) : Int)) (z := ((at_ : Nat) : Int)) (by omega) (by omega) (by omega) (by kernel_rfl))) sS2 ?_
 refine dW 10 40 (pt gr 0) sS2 ?_
 refine dW 11 41 (pt gr 0) sS2 ?_
 refine dW 12 42 (pt gr 1) sS2 ?_
 refine dV 13 43 (.int .i64 ((at_ + k : Nat) : Int)) rfl rfl (fun w' hw' => (ld 3 42 gr 1 (.int .i64 ((at_ + k : Nat) : Int)) ((cell_of_row _ _ 1 _ _ _ (Chg.hp hw' (Chg.hp ch5 hb3 trivial) trivial)).trans rfl))) sS2 ?_
 have kk4 : Chg [gr] (w) W1 := Chg.step ((Chg.refl _).more (by simp)) ch1 trivial
 have kk5 := Chg.step kk4 ch4 ⟨.inl (by simp), trivial⟩
 have kk6 := Chg.step kk5 ch5 trivial
 obtain ⟨Ac1, hAc1⟩ : ∃ x_, x_ = Mur.cutA A c at_ := ⟨_, rfl⟩
 have hbc1 : Byt (w) Ac1 (at_ + k - at_) ((b.take (at_ + k)).drop at_) := by rw [hAc1]; exact Mur.Byt.cut hb at_ (at_ + k) (by omega) (by omega) (by omega)
 have ltc1 : ∀ g off, Ac1 = some ⟨g, off, none⟩ → 0 < at_ + k - at_ → g ≠ gr := fun g off e hn => Mur.cutA_blk (Q := fun q => q ≠ gr) (fun a_ e2_ => hneb a_ e2_ (by omega)) _ (hAc1.symm.trans e)
 refine dV 14 44 (.slice Ac1 (at_ + k - at_) (c - at_)) rfl rfl (fun w' hw' => (by rw [hAc1]; exact Mur.run_op_cutF 22 (.tmp 33) (.tmp 39) (.tmp 43) rfl 5 Tryd.underlying22 (by kernel_rfl) A n c at_ (at_ + k) (by kernel_rfl) (by kernel_rfl) (by kernel_rfl) (by omega) (by omega) (by omega))) sS2 ?_
 refine dW 15 4 (.slice Ac1 (at_ + k - at_) (c - at_)) sS2 ?_
 refine dEnd (by kernel_rfl) (nxt (wp_ret ?_))
 have hbz2 : Byt W5 Ac1 (at_ + k - at_) ((b.take (at_ + k)).drop at_) := (byt_chgp hbc1 kk6 (fun g off e hn hl => ⟨by have := ltc1 g off e hn; omega, trivial⟩))
 refine rt (.slice Ac1 (at_ + k - at_) (c - at_)) ?_
 exact ⟨at_ + k, bad, Ac1, _, c - at_, _, rfl, ⟨by omega, by omega⟩, (Chg.hp ch5 hb3 trivial), Mur.Step.of_ok (Mur.readS_ok (by omega)), ⟨by omega, hbz2, by omega, by omega⟩, kk6⟩
theorem Rsome_any (gr : Nat) (A : Option Addr) (n c : Nat) (b : List UInt8) (at_ : Nat) (bad : Bool) (w : World) (hr : w.heap[gr]? = some (.cells #[.slice A n c, .int .i64 ((at_ : Nat) : Int), .bool bad] 56 (0, 0))) (hb : Byt w A n b) (hnc : n ≤ c ∧ c ≤ 9223372036854775807) (hneb : ∀ a, A = some a → 0 < n → a.block ≠ gr) (hat : at_ ≤ n) (hn : n ≤ 100000) (k : Nat) (hk : k ≤ 1000) : Calls Tryd.prog 42 #[pt gr 0, .int .i64 ((k : Nat) : Int)] w fun e w' => ∃ (at2 : Nat) (bad2 : Bool) (A1 : Option Addr) (c1 : Nat) (x : List UInt8), e = .returned (.slice A1 k c1) ∧ (at_ ≤ at2 ∧ at2 ≤ n) ∧ w'.heap[gr]? = some (.cells #[.slice A n c, .int .i64 ((at2 : Nat) : Int), .bool bad2] 56 (0, 0)) ∧ Mur.Step (Mur.readS k) b at_ bad at2 bad2 x ∧ Byt w' A1 k x ∧ (k ≤ c1 ∧ c1 ≤ 9223372036854775807) ∧ Chg [gr] w w' := by
 refine (Rsome_any0 gr A n c b at_ bad w hr hb hnc hneb hat hn k hk).mono ?_
 rintro _ W ⟨at2, bad2, A1, n1, c1, x, rfl, h1, h2, h3, ⟨rfl, h4, h5, h6⟩, h7⟩
 exact ⟨at2, bad2, A1, c1, x, rfl, h1, h2, h3, h4, ⟨h5, h6⟩, h7⟩
theorem Rdigest_any (gr : Nat) (A : Option Addr) (n c : Nat) (b : List UInt8) (at_ : Nat) (bad : Bool) (w : World) (hr : w.heap[gr]? = some (.cells #[.slice A n c, .int .i64 ((at_ : Nat) : Int), .bool bad] 56 (0, 0))) (hb : Byt w A n b) (hnc : n ≤ c ∧ c ≤ 9223372036854775807) (hneb : ∀ a, A = some a → 0 < n → a.block ≠ gr) (hat : at_ ≤ n) (hn : n ≤ 100000) : Calls Tryd.prog 20 #[pt gr 0] w fun e w' => ∃ (at2 : Nat) (bad2 : Bool) (x : List UInt8), e = .returned (.agg (b8s x).toArray) ∧ (at_ ≤ at2 ∧ at2 ≤ n) ∧ w'.heap[gr]? = some (.cells #[.slice A n c, .int .i64 ((at2 : Nat) : Int), .bool bad2] 56 (0, 0)) ∧ Mur.Step (Mur.readS 32) b at_ bad at2 bad2 x ∧ x.length = 32 ∧ Chg [gr] w w' := by
 have hne : ∀ g off, A = some ⟨g, off, none⟩ → 0 < n → g ≠ gr := fun g off e hn => hneb _ e hn
 have hbl_ := hb.1
 have hn_ := hn
 have hgl_ := (Array.getElem?_eq_some_iff.1 hr).1
 refine calls_of_wp Tryd.func20 rfl ?_
 refine wp_seq (reg ?_)
 refine rX 0 2 rfl rfl (new_ex (pt w.heap.size 0) Z32 29 (by kernel_rfl)) ?_
 rintro _ W1 ⟨rfl, hb1, ch1, sz1⟩
 have zz1 := ch1.size
 refine rEnd 1 rfl (nxt (wp_seq (reg ?_)))
 refine rP 0 3 (pt gr 0) ?_
 refine rC 1 4 42 [.tmp 3, .const (.int .i64 32)] #[54, 3] [pt gr 0, .int .i64 32] ?_
 have kk1 : Chg [gr] (w) W1 := Chg.step ((Chg.refl _).more (by simp)) ch1 trivial
 refine (Rsome_any gr A n c b at_ bad W1 (Chg.hp ch1 hr trivial) (byt_chgp hb kk1 (fun g off e hn hl => ⟨by have := hne g off e hn; omega, trivial⟩)) ⟨by omega, by omega⟩ hneb (by omega) (by omega) 32 (by omega)).mono ?_
 rintro _ W2 ⟨at1, bad1, AA1, cc1, x1, rfl, hat1, hr1, hst1, hb2, hcc1, ch2⟩
 have zz2 := ch2.size
 refine ⟨_, rfl, ?_⟩
 -- AA1
 obtain ⟨qs1, os1, hq_, _⟩ := hb2.2 (by omega)
 subst hq_
 refine rQ 2 5 (pt qs1 os1) rfl rfl (Mur.s2a 29 5 (.tmp 4) 32 rfl Tryd.underlying29 (some ⟨qs1, os1, none⟩) 32 cc1 (by kernel_rfl) (by omega)) ?_
 refine rQ 3 6 (.agg ((b8s x1).toArray)) rfl rfl (loadR 29 (.tmp 5) rfl _ Tryd.underlying29 rfl qs1 os1 (by kernel_rfl) (b8s x1) (by rw [b8s_length, hb2.1]; kernel_rfl) (Mur.rng_byt hb2)) ?_
 refine rY 4 rfl rfl (Mur.storeAll 29 (.tmp 2) (.tmp 6) rfl w.heap.size (by kernel_rfl) x1 32 hb2.1 (by kernel_rfl) (by kernel_rfl) 29 Z32 (Chg.hp ch2 hb1 ⟨by omega, trivial⟩) rfl) ?_
 rintro W3 ⟨hb3, ch3⟩
 have zz3 := ch3.size
 refine rEnd 5 rfl (nxt (wp_ret ?_))
 have kk2 := Chg.step kk1 ch2 ⟨.inl (by simp), trivial⟩
 have kk3 := Chg.step kk2 ch3 ⟨.inr (by omega), trivial⟩
 refine Wk.ret (.agg (b8s x1).toArray) rfl (results_cell_row rfl _ _ w.heap.size 29 (b8s x1).toArray (0, 0) _ (by kernel_rfl) hb3 Tryd.underlying29 rfl (by rw [List.size_toArray, b8s_length, hb2.1]; kernel_rfl)) ?_
 exact ⟨at1, bad1, x1, rfl, ⟨by omega, by omega⟩, (Chg.hp ch3 hr1 ⟨by omega, trivial⟩), hst1, hb2.1, kk3⟩
theorem Rattest_any (gr : Nat) (A : Option Addr) (n c : Nat) (b : List UInt8) (at_ : Nat) (bad : Bool) (w : World) (hr : w.heap[gr]? = some (.cells #[.slice A n c, .int .i64 ((at_ : Nat) : Int), .bool bad] 56 (0, 0))) (hb : Byt w A n b) (hnc : n ≤ c ∧ c ≤ 9223372036854775807) (hneb : ∀ a, A = some a → 0 < n → a.block ≠ gr) (hat : at_ ≤ n) (hn : n ≤ 100000) : Calls Tryd.prog 39 #[pt gr 0] w fun e w' => ∃ (at2 : Nat) (bad2 : Bool) (y : Att), e = .returned (.agg (attC y.k y.r y.n y.t).toArray) ∧ (at_ ≤ at2 ∧ at2 ≤ n) ∧ w'.heap[gr]? = some (.cells #[.slice A n c, .int .i64 ((at2 : Nat) : Int), .bool bad2] 56 (0, 0)) ∧ Mur.Step Mur.readA b at_ bad at2 bad2 y ∧ Chg [gr] w w' := by
 have hne : ∀ g off, A = some ⟨g, off, none⟩ → 0 < n → g ≠ gr := fun g off e hn => hneb _ e hn
 have hbl_ := hb.1
 have hn_ := hn
 have hgl_ := (Array.getElem?_eq_some_iff.1 hr).1
 refine calls_of_wp Tryd.func39 rfl ?_
 refine wp_seq (reg ?_)
 refine rX 0 2 rfl rfl (new_ex (pt w.heap.size 0) (Mur.attC z32 z32 0 z32).toArray 36 (by kernel_rfl)) ?_
 rintro _ W1 ⟨rfl, hb1, ch1, sz1⟩
 have zz1 := ch1.size
 refine rEnd 1 rfl (nxt (wp_seq (reg ?_)))
 refine rP 0 6 (pt gr 0) ?_
 refine rC 1 7 42 [.tmp 6, .const (.int .i64 104)] #[54, 3] [pt gr 0, .int .i64 104] ?_
 have kk1 : Chg [gr] (w) W1 := Chg.step ((Chg.refl _).more (by simp)) ch1 trivial
 refine (Rsome_any gr A n c b at_ bad W1 (Chg.hp ch1 hr trivial) (byt_chgp hb kk1 (fun g off e hn hl => ⟨by have := hne g off e hn; omega, trivial⟩)) ⟨by omega, by omega⟩ hneb (by omega) (by omega) 104 (by omega)).mono ?_
 rintro _ W2 ⟨at1, bad1, AA1, cc1, x1, rfl, hat1, hr1, hst1, hb2, hcc1, ch2⟩
 have zz2 := ch2.size
 refine ⟨_, rfl, ?_⟩
 refine rC 2 8 68 [.tmp 7] #[22] [.slice AA1 104 cc1] ?_
 obtain ⟨qs1, os1, hq_, _⟩ := hb2.2 (by omega)
 subst hq_
 by_cases hV1 : 1 ≤ Mur.be8 ((x1.take 72).drop 64) ∧ Mur.be8 ((x1.take 72).drop 64) ≤ 5000
 ·refine (Read_ok qs1 os1 cc1 x1 _ _ _ _ _ W2 hb2 (by omega) rfl rfl rfl rfl rfl hV1).mono ?_
  rintro _ W3 ⟨rfl, ch3⟩
  have zz3 := ch3.size
  refine ⟨_, rfl, ?_⟩
  refine rP 3 5 (.tuple #[.agg ((Mur.attC ((x1.take 32).drop 0) ((x1.take 64).drop 32) ((Mur.be8 ((x1.take 72).drop 64) : Nat) : Int) ((x1.take 104).drop 72)).toArray), .int .i64 0]) ?_
  refine rP 4 9 (.agg ((Mur.attC ((x1.take 32).drop 0) ((x1.take 64).drop 32) ((Mur.be8 ((x1.take 72).drop 64) : Nat) : Int) ((x1.take 104).drop 72)).toArray)) ?_
  refine rP 5 10 (.int .i64 0) ?_
  refine rX 6 3 rfl rfl (new_ex (pt W3.heap.size 0) (Mur.attC z32 z32 0 z32).toArray 36 (by kernel_rfl)) ?_
  rintro _ W4 ⟨rfl, hb3, ch4, sz2⟩
  have zz4 := ch4.size
  refine rY 7 rfl rfl (Mur.storeArr 36 (.tmp 3) (.tmp 9) rfl W3.heap.size (by kernel_rfl) (Mur.attC ((x1.take 32).drop 0) ((x1.take 64).drop 32) ((Mur.be8 ((x1.take 72).drop 64) : Nat) : Int) ((x1.take 104).drop 72)).toArray 97 (attC_size (sub_len hb2.1 (by omega) rfl) (sub_len hb2.1 (by omega) rfl) (sub_len hb2.1 (by omega) rfl)) attC_all (by kernel_rfl) (by kernel_rfl) 36 ((Mur.attC z32 z32 0 z32).toArray) hb3 (attC_size rfl rfl rfl)) ?_
  rintro W5 ⟨hb4, ch5⟩
  have zz5 := ch5.size
  refine rP 8 4 (.int .i64 0) ?_
  refine rEnd 9 rfl (nxt (wp_seq (wp_seq (reg ?_))))
  refine rP 0 11 (.int .i64 0) ?_
  refine rQ 1 12 _ rfl rfl (qboolF (b := ((0 : Int) != (0 : Int))) (bne_eq_false_iff_eq.2 (by decide))) ?_
  refine rEnd 2 rfl (nxt (wp_cond_false (by kernel_rfl) (wp_skip (nxt (wp_seq (reg ?_))))))
  refine rQ 0 16 (.agg ((Mur.attC ((x1.take 32).drop 0) ((x1.take 64).drop 32) ((Mur.be8 ((x1.take 72).drop 64) : Nat) : Int) ((x1.take 104).drop 72)).toArray)) rfl rfl (Mur.loadArr 36 (.tmp 3) rfl _ Tryd.underlying36 rfl W3.heap.size (by kernel_rfl) (Mur.attC ((x1.take 32).drop 0) ((x1.take 64).drop 32) ((Mur.be8 ((x1.take 72).drop 64) : Nat) : Int) ((x1.take 104).drop 72)).toArray 97 (attC_size (sub_len hb2.1 (by omega) rfl) (sub_len hb2.1 (by omega) rfl) (sub_len hb2.1 (by omega) rfl)) (by kernel_rfl) 36 (0, 0) hb4) ?_
  refine rY 1 rfl rfl (Mur.storeArr 36 (.tmp 2) (.tmp 16) rfl w.heap.size (by kernel_rfl) (Mur.attC ((x1.take 32).drop 0) ((x1.take 64).drop 32) ((Mur.be8 ((x1.take 72).drop 64) : Nat) : Int) ((x1.take 104).drop 72)).toArray 97 (attC_size (sub_len hb2.1 (by omega) rfl) (sub_len hb2.1 (by omega) rfl) (sub_len hb2.1 (by omega) rfl)) attC_all (by kernel_rfl) (by kernel_rfl) 36 ((Mur.attC z32 z32 0 z32).toArray) (Chg.hp ch5 (Chg.hp ch4 (Chg.hp ch3 (Chg.hp ch2 hb1 ⟨by omega, trivial⟩) trivial) trivial) ⟨by omega, trivial⟩) (attC_size rfl rfl rfl)) ?_
  rintro W6 ⟨hb5, ch6⟩
  have zz6 := ch6.size
  refine rEnd 2 rfl (nxt (wp_ret ?_))
  have kk2 := Chg.step kk1 ch2 ⟨.inl (by simp), trivial⟩
  have kk3 := Chg.step kk2 ch3 trivial
  have kk4 := Chg.step kk3 ch4 trivial
  have kk5 := Chg.step kk4 ch5 ⟨.inr (by omega), trivial⟩
  have kk6 := Chg.step kk5 ch6 ⟨.inr (by omega), trivial⟩
  refine Wk.ret (.agg (Mur.attC ((x1.take 32).drop 0) ((x1.take 64).drop 32) ((Mur.be8 ((x1.take 72).drop 64) : Nat) : Int) ((x1.take 104).drop 72)).toArray) rfl (results_cell_row rfl _ _ w.heap.size 36 (Mur.attC ((x1.take 32).drop 0) ((x1.take 64).drop 32) ((Mur.be8 ((x1.take 72).drop 64) : Nat) : Int) ((x1.take 104).drop 72)).toArray (0, 0) _ (by kernel_rfl) hb5 Tryd.underlying36 rfl (by rw [(attC_size (sub_len hb2.1 (by omega) rfl) (sub_len hb2.1 (by omega) rfl) (sub_len hb2.1 (by omega) rfl))]; kernel_rfl)) ?_
  exact ⟨at1, bad1, Mur.attOf x1 hb2.1 hV1.2, rfl, ⟨by omega, by omega⟩, (Chg.hp ch6 (Chg.hp ch5 (Chg.hp ch4 (Chg.hp ch3 hr1 trivial) trivial) ⟨by omega, trivial⟩) ⟨by omega, trivial⟩), Mur.Step.att_ok hst1 hb2.1 hV1, kk6⟩
 refine (Read_no qs1 os1 cc1 x1 _ _ _ _ _ W2 hb2 (by omega) rfl rfl rfl rfl rfl hV1).mono ?_
 rintro _ W7 ⟨rfl, ch7⟩
 have zz7 := ch7.size
 refine ⟨_, rfl, ?_⟩
 refine rP 3 5 (.tuple #[.agg ((Mur.attC z32 z32 0 z32).toArray), .int .i64 5]) ?_
 refine rP 4 9 (.agg ((Mur.attC z32 z32 0 z32).toArray)) ?_
 refine rP 5 10 (.int .i64 5) ?_
 refine rX 6 3 rfl rfl (new_ex (pt W7.heap.size 0) (Mur.attC z32 z32 0 z32).toArray 36 (by kernel_rfl)) ?_
 rintro _ W8 ⟨rfl, hb6, ch8, sz3⟩
 have zz8 := ch8.size
 refine rY 7 rfl rfl (Mur.storeArr 36 (.tmp 3) (.tmp 9) rfl W7.heap.size (by kernel_rfl) (Mur.attC z32 z32 0 z32).toArray 97 (attC_size rfl rfl rfl) attC_all (by kernel_rfl) (by kernel_rfl) 36 ((Mur.attC z32 z32 0 z32).toArray) hb6 (attC_size rfl rfl rfl)) ?_
 rintro W10 ⟨hb7, ch9⟩
 have zz9 := ch9.size
 refine rP 8 4 (.int .i64 5) ?_
 refine rEnd 9 rfl (nxt (wp_seq (wp_seq (reg ?_))))
 refine rP 0 11 (.int .i64 5) ?_
 refine rQ 1 12 _ rfl rfl (qboolT (b := ((5 : Int) != (0 : Int))) (bne_iff_ne.2 (by decide))) ?_
 refine rEnd 2 rfl (nxt (wp_cond_true (by kernel_rfl) (reg ?_)))
 refine rP 0 13 (pt gr 0) ?_
 refine rP 1 14 (pt gr 0) ?_
 refine rP 2 15 (pt gr 2) ?_
 refine rY 3 rfl rfl (store1 4 (.tmp 15) (.const (.bool true)) rfl (by kernel_rfl) gr 2 (by kernel_rfl) (.bool true) (by kernel_rfl) rfl 56 #[.slice A n c, .int .i64 ((at1 : Nat) : Int), .bool bad1] (Chg.hp ch9 (Chg.hp ch8 (Chg.hp ch7 hr1 trivial) trivial) ⟨by omega, trivial⟩) (by simp)) ?_
 rintro W11 ⟨hb8, ch10⟩
 replace hb8 : W11.heap[gr]? = some (.cells #[.slice A n c, .int .i64 ((at1 : Nat) : Int), .bool true] 56 (0, 0)) := hb8
 have zz10 := ch10.size
 refine rEnd 4 rfl (nxt (wp_seq (reg ?_)))
 refine rQ 0 16 (.agg ((Mur.attC z32 z32 0 z32).toArray)) rfl rfl (Mur.loadArr 36 (.tmp 3) rfl _ Tryd.underlying36 rfl W7.heap.size (by kernel_rfl) (Mur.attC z32 z32 0 z32).toArray 97 (attC_size rfl rfl rfl) (by kernel_rfl) 36 (0, 0) (Chg.hp ch10 hb7 ⟨by omega, trivial⟩)) ?_
 refine rY 1 rfl rfl (Mur.storeArr 36 (.tmp 2) (.tmp 16) rfl w.heap.size (by kernel_rfl) (Mur.attC z32 z32 0 z32).toArray 97 (attC_size rfl rfl rfl) attC_all (by kernel_rfl) (by kernel_rfl) 36 ((Mur.attC z32 z32 0 z32).toArray) (Chg.hp ch10 (Chg.hp ch9 (Chg.hp ch8 (Chg.hp ch7 (Chg.hp ch2 hb1 ⟨by omega, trivial⟩) trivial) trivial) ⟨by omega, trivial⟩) ⟨by omega, trivial⟩) (attC_size rfl rfl rfl)) ?_
 rintro W12 ⟨hb9, ch11⟩
 have zz11 := ch11.size
 refine rEnd 2 rfl (nxt (wp_ret ?_))
 have kk7 := Chg.step kk1 ch2 ⟨.inl (by simp), trivial⟩
 have kk8 := Chg.step kk7 ch7 trivial
 have kk9 := Chg.step kk8 ch8 trivial
 have kk10 := Chg.step kk9 ch9 ⟨.inr (by omega), trivial⟩
 have kk11 := Chg.step kk10 ch10 ⟨.inl (by simp), trivial⟩
 have kk12 := Chg.step kk11 ch11 ⟨.inr (by omega), trivial⟩
 refine Wk.ret (.agg (Mur.attC z32 z32 0 z32).toArray) rfl (results_cell_row rfl _ _ w.heap.size 36 (Mur.attC z32 z32 0 z32).toArray (0, 0) _ (by kernel_rfl) hb9 Tryd.underlying36 rfl (by rw [(attC_size rfl rfl rfl)]; kernel_rfl)) ?_
 exact ⟨at1, true, Mur.attNone, rfl, ⟨by omega, by omega⟩, (Chg.hp ch11 hb8 ⟨by omega, trivial⟩), Mur.Step.att_no hst1 hb2.1 hV1 _, kk12⟩
theorem Rupdate_any (gr : Nat) (A : Option Addr) (n c : Nat) (b : List UInt8) (at_ : Nat) (bad : Bool) (w : World) (hr : w.heap[gr]? = some (.cells #[.slice A n c, .int .i64 ((at_ : Nat) : Int), .bool bad] 56 (0, 0))) (hb : Byt w A n b) (hnc : n ≤ c ∧ c ≤ 9223372036854775807) (hneb : ∀ a, A = some a → 0 < n → a.block ≠ gr) (hat : at_ ≤ n) (hn : n ≤ 100000) : Calls Tryd.prog 36 #[pt gr 0] w fun e w' => ∃ (at2 : Nat) (bad2 : Bool) (u : Mur.Upd), e = .returned (.agg (Mur.updU u).toArray) ∧ (at_ ≤ at2 ∧ at2 ≤ n) ∧ w'.heap[gr]? = some (.cells #[.slice A n c, .int .i64 ((at2 : Nat) : Int), .bool bad2] 56 (0, 0)) ∧ Mur.Step Mur.readU b at_ bad at2 bad2 u ∧ (u.node ≤ 1073741824 ∧ u.inc < 18446744073709551616) ∧ Chg [gr] w w' := by
 have hne : ∀ g off, A = some ⟨g, off, none⟩ → 0 < n → g ≠ gr := fun g off e hn => hneb _ e hn
 have hbl_ := hb.1
 have hn_ := hn
 have hgl_ := (Array.getElem?_eq_some_iff.1 hr).1
 refine calls_of_wp Tryd.func36 rfl ?_
 refine wp_seq (reg ?_)
 refine rX 0 2 rfl rfl (new_ex (pt w.heap.size 0) #[.int .i64 0, .int .u8 0, .int .u64 0] 66 (by kernel_rfl)) ?_
 rintro _ W1 ⟨rfl, hb1, ch1, sz1⟩
 have zz1 := ch1.size
 refine rEnd 1 rfl (nxt (wp_seq (reg ?_)))
 refine rP 0 4 (pt gr 0) ?_
 refine rC 1 5 17 [.tmp 4] #[54] [pt gr 0] ?_
 have kk1 : Chg [gr] (w) W1 := Chg.step ((Chg.refl _).more (by simp)) ch1 trivial
 refine (Rint_any gr A n c b at_ bad W1 (Chg.hp ch1 hr trivial) (byt_chgp hb kk1 (fun g off e hn hl => ⟨by have := hne g off e hn; omega, trivial⟩)) ⟨by omega, by omega⟩ hneb (by omega) (by omega)).mono ?_
 rintro _ W2 ⟨at1, bad1, v1, rfl, hat1, hr1, hst1, hlt1, ch2⟩
 have zz2 := ch2.size
 refine ⟨_, rfl, ?_⟩
 refine rP 2 6 (.agg #[.int .i64 ((v1 : Nat) : Int), .int .u8 0, .int .u64 0]) ?_
 refine rX 3 3 rfl rfl (new_ex (pt W2.heap.size 0) #[.int .i64 0, .int .u8 0, .int .u64 0] 66 (by kernel_rfl)) ?_
 rintro _ W3 ⟨rfl, hb2, ch3, sz2⟩
 have zz3 := ch3.size
 refine rY 4 rfl rfl (Wk.storeR 66 (.tmp 3) (.tmp 6) rfl W2.heap.size 0 (by kernel_rfl) ([.int .i64 ((v1 : Nat) : Int), .int .u8 0, .int .u64 0]) (by kernel_rfl) (by kernel_rfl) (by intro v hv; simp at hv; rcases hv with h | h | h <;> (subst h; rfl)) 66 ([.int .i64 0, .int .u8 0, .int .u64 0]) hb2 (by simp)) ?_
 rintro W4 ⟨hb3, ch4⟩
 replace hb3 : W4.heap[W2.heap.size]? = some (.cells #[.int .i64 ((v1 : Nat) : Int), .int .u8 0, .int .u64 0] 66 (0, 0)) := hb3
 have zz4 := ch4.size
 refine rEnd 5 rfl (nxt (wp_seq (reg ?_)))
 refine rP 0 7 (pt gr 0) ?_
 refine rC 1 8 16 [.tmp 7] #[54] [pt gr 0] ?_
 have kk2 := Chg.step kk1 ch2 ⟨.inl (by simp), trivial⟩
 have kk3 := Chg.step kk2 ch3 trivial
 have kk4 := Chg.step kk3 ch4 ⟨.inr (by omega), trivial⟩
 refine (Rkind_any gr A n c b at1 bad1 W4 (Chg.hp ch4 (Chg.hp ch3 hr1 trivial) ⟨by omega, trivial⟩) (byt_chgp hb kk4 (fun g off e hn hl => ⟨by have := hne g off e hn; omega, trivial⟩)) ⟨by omega, by omega⟩ hneb (by omega) (by omega)).mono ?_
 rintro _ W5 ⟨at2, bad2, v2, rfl, hat2, hr2, hst2, hlt2, ch5⟩
 have zz5 := ch5.size
 refine ⟨_, rfl, ?_⟩
 refine rP 2 9 (pt W2.heap.size 1) ?_
 refine rY 3 rfl rfl (store1 5 (.tmp 9) (.tmp 8) rfl (by kernel_rfl) W2.heap.size 1 (by kernel_rfl) (.int .u8 (((UInt8.ofNat v2).toNat : Nat) : Int)) (by kernel_rfl) rfl 66 #[.int .i64 ((v1 : Nat) : Int), .int .u8 0, .int .u64 0] (Chg.hp ch5 hb3 ⟨by omega, trivial⟩) (by simp)) ?_
 rintro W6 ⟨hb4, ch6⟩
 replace hb4 : W6.heap[W2.heap.size]? = some (.cells #[.int .i64 ((v1 : Nat) : Int), .int .u8 (((UInt8.ofNat v2).toNat : Nat) : Int), .int .u64 0] 66 (0, 0)) := hb4
 have zz6 := ch6.size
 refine rEnd 4 rfl (nxt (wp_seq (reg ?_)))
 refine rP 0 10 (pt gr 0) ?_
 refine rC 1 11 34 [.tmp 10] #[54] [pt gr 0] ?_
 have kk5 := Chg.step kk4 ch5 ⟨.inl (by simp), trivial⟩
 have kk6 := Chg.step kk5 ch6 ⟨.inr (by omega), trivial⟩
 refine (Ruint_any gr A n c b at2 bad2 W6 (Chg.hp ch6 hr2 ⟨by omega, trivial⟩) (byt_chgp hb kk6 (fun g off e hn hl => ⟨by have := hne g off e hn; omega, trivial⟩)) ⟨by omega, by omega⟩ hneb (by omega) (by omega)).mono ?_
 rintro _ W7 ⟨at3, bad3, v3, rfl, hat3, hr3, hst3, hlt3, ch7⟩
 have zz7 := ch7.size
 refine ⟨_, rfl, ?_⟩
 refine rP 2 12 (pt W2.heap.size 2) ?_
 refine rY 3 rfl rfl (store1 24 (.tmp 12) (.tmp 11) rfl (by kernel_rfl) W2.heap.size 2 (by kernel_rfl) (.int .u64 ((v3 : Nat) : Int)) (by kernel_rfl) rfl 66 #[.int .i64 ((v1 : Nat) : Int), .int .u8 (((UInt8.ofNat v2).toNat : Nat) : Int), .int .u64 0] (Chg.hp ch7 hb4 ⟨by omega, trivial⟩) (by simp)) ?_
 rintro W8 ⟨hb5, ch8⟩
 replace hb5 : W8.heap[W2.heap.size]? = some (.cells #[.int .i64 ((v1 : Nat) : Int), .int .u8 (((UInt8.ofNat v2).toNat : Nat) : Int), .int .u64 ((v3 : Nat) : Int)] 66 (0, 0)) := hb5
 have zz8 := ch8.size
 refine rEnd 4 rfl (nxt (wp_seq (reg ?_)))
 refine rQ 0 13 (.agg #[.int .i64 ((v1 : Nat) : Int), .int .u8 (((UInt8.ofNat v2).toNat : Nat) : Int), .int .u64 ((v3 : Nat) : Int)]) rfl rfl (loadR 66 (.tmp 3) rfl _ Tryd.underlying66 rfl W2.heap.size 0 (by kernel_rfl) ([.int .i64 ((v1 : Nat) : Int), .int .u8 (((UInt8.ofNat v2).toNat : Nat) : Int), .int .u64 ((v3 : Nat) : Int)]) (by kernel_rfl) (range_row hb5)) ?_
 refine rY 1 rfl rfl (Wk.storeR 66 (.tmp 2) (.tmp 13) rfl w.heap.size 0 (by kernel_rfl) ([.int .i64 ((v1 : Nat) : Int), .int .u8 (((UInt8.ofNat v2).toNat : Nat) : Int), .int .u64 ((v3 : Nat) : Int)]) (by kernel_rfl) (by kernel_rfl) (by intro v hv; simp at hv; rcases hv with h | h | h <;> (subst h; rfl)) 66 ([.int .i64 0, .int .u8 0, .int .u64 0]) (Chg.hp ch8 (Chg.hp ch7 (Chg.hp ch6 (Chg.hp ch5 (Chg.hp ch4 (Chg.hp ch3 (Chg.hp ch2 hb1 ⟨by omega, trivial⟩) trivial) ⟨by omega, trivial⟩) ⟨by omega, trivial⟩) ⟨by omega, trivial⟩) ⟨by omega, trivial⟩) ⟨by omega, trivial⟩) (by simp)) ?_
 rintro W10 ⟨hb6, ch9⟩
 replace hb6 : W10.heap[w.heap.size]? = some (.cells #[.int .i64 ((v1 : Nat) : Int), .int .u8 (((UInt8.ofNat v2).toNat : Nat) : Int), .int .u64 ((v3 : Nat) : Int)] 66 (0, 0)) := hb6
 have zz9 := ch9.size
 refine rEnd 2 rfl (nxt (wp_ret ?_))
 have kk7 := Chg.step kk6 ch7 ⟨.inl (by simp), trivial⟩
 have kk8 := Chg.step kk7 ch8 ⟨.inr (by omega), trivial⟩
 have kk9 := Chg.step kk8 ch9 ⟨.inr (by omega), trivial⟩
 refine Wk.ret (.agg #[.int .i64 ((v1 : Nat) : Int), .int .u8 (((UInt8.ofNat v2).toNat : Nat) : Int), .int .u64 ((v3 : Nat) : Int)]) rfl (results_cell_row rfl _ _ w.heap.size 66 #[.int .i64 ((v1 : Nat) : Int), .int .u8 (((UInt8.ofNat v2).toNat : Nat) : Int), .int .u64 ((v3 : Nat) : Int)] (0, 0) _ (by kernel_rfl) hb6 Tryd.underlying66 rfl (by kernel_rfl)) ?_
 exact ⟨at3, bad3, ⟨v1, v2, v3⟩, rfl, ⟨by omega, by omega⟩, (Chg.hp ch9 (Chg.hp ch8 hr3 ⟨by omega, trivial⟩) ⟨by omega, trivial⟩), (show Mur.Step Mur.readU _ _ _ _ _ _ from (hst1.seq (hst2.seq hst3)).map (fun y : Nat × Nat × Nat => (⟨y.1, y.2.1, y.2.2⟩ : Mur.Upd))), ⟨by omega, by omega⟩, kk9⟩
end Go.Proofs.YtgbadghjnpbiaaaDoor
