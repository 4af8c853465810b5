/- What the row rests on, part 7. -/
import Derived.Test.YtgbadghjnpbiaaaDoorRO6
import Derived.Test.YtgbadghjnpbiaaaDoorRO3
import Derived.Test.YtgbadghjnpbiaaaDoorRO4
namespace Go.Proofs.YtgbadghjnpbiaaaDoor
open Go.RowKit Wk
open Mur (b8s Byt Own8 Seg Segs flat cutA attC Att SlA OwnA rowA msgC formN formN_len own8_low u64n conv_u64n u64n_lt byt_chgp)
set_option maxRecDepth 100000
set_option maxHeartbeats 4000000
theorem Wuint1_any (g base : Nat) (A : Option Addr) (n c : Nat) (b : List UInt8) (q N1 : Nat) (w : World) (hg : w.heap[g]? = some (.cells #[.slice A n c] 97 (0, 0))) (hbs : g < base ∧ base ≤ w.heap.size) (ho : Own8 w base 5 A n c b) (hn : n ≤ 5000000) (hq : w.heap[q]? = some (.cells #[.int .u64 ((N1 : Nat) : Int)] 24 (0, 0))) (hqg : q ≠ g) (hN1 : N1 < 18446744073709551616) : Calls Tryd.prog 50 #[pt g 0, .slice (some ⟨q, 0, none⟩) 1 1] w fun e w' => ∃ A1 n1 c1, e = .returned (.tuple #[]) ∧ w'.heap[g]? = some (.cells #[.slice A1 n1 c1] 97 (0, 0)) ∧ Own8 w' w.heap.size 5 A1 n1 c1 (b ++ formN N1) ∧ n1 ≤ n + 9 ∧ Chg [g] w w' := by
 have hql_ := (Array.getElem?_eq_some_iff.1 hq).1
 have hqg_ := hqg
 have hgl_ := (Array.getElem?_eq_some_iff.1 hg).1
 have hon_ := ho.nc
 have hoc_ := ho.cm
 have hol_ := ho.byt.1
 have hn_ := hn
 have hbs_ := hbs
 have holt_ := ho.lt
 refine calls_of_wp Tryd.func50 rfl ?_
 refine wp_seq (reg ?_)
 refine rP 0 6 (.slice (some ⟨q, 0, none⟩) 1 1) rfl rfl ?_
 refine rP 1 7 (.int .i64 1) rfl rfl ?_
 refine rP 2 8 (.int .i64 0) rfl rfl ?_
 refine rEnd 3 rfl (nxt (wp_block ?_))
 refine Wk.loopN 2 ?_
 refine Wk.rdS (wp_seq (reg ?_))
 refine rQ 0 9 _ rfl rfl (qboolT (b := decide ((0 : Int) < (1 : Int))) (decide_eq_true (by decide))) ?_
 refine rEnd 1 rfl (nxt (wp_seq (wp_cond_true (by kernel_rfl) (wp_skip (nxt (wp_seq (wp_block (wp_seq (reg ?_)))))))))
 refine rQ 0 10 (pt q 0) rfl rfl (index_sl 108 24 (.tmp 6) (.tmp 8) rfl Tryd.underlying108 1 (by kernel_rfl) q 0 1 1 0 .i64 (by kernel_rfl) (by kernel_rfl) (by omega)) ?_
 refine rQ 1 11 _ rfl rfl (ld 24 10 q 0 (.int .u64 ((N1 : Nat) : Int)) ((cell_of_row _ _ 0 _ _ _ hq).trans rfl)) ?_
 refine rP 2 5 (.int .u64 ((N1 : Nat) : Int)) rfl rfl ?_
 refine rEnd 3 rfl (nxt (reg ?_))
 refine rP 0 12 (pt g 0) rfl rfl ?_
 refine rP 1 13 (pt g 0) rfl rfl ?_
 refine rP 2 14 (pt g 0) rfl rfl ?_
 refine rP 3 15 (pt g 0) rfl rfl ?_
 refine rQ 4 16 _ rfl rfl (ld 22 15 g 0 (.slice A n c) ((cell_of_row _ _ 0 _ _ _ hg).trans rfl)) ?_
 refine rP 5 17 (.int .u64 ((N1 : Nat) : Int)) rfl rfl ?_
 refine rC 6 18 79 [.tmp 16, .tmp 17] #[22, 24] [.slice A n c, .int .u64 ((N1 : Nat) : Int)] rfl rfl rfl ?_
 refine (AppendUint_any b A n c N1 w ho.byt ⟨by omega, by omega⟩ ho.nil (by omega) hN1).mono ?_
 rintro _ W1 ⟨AA1, nn1, cc1, rfl, ow1, ch1⟩
 have zz1 := ch1.size
 have hfl1 := formN_len hN1
 have hq1 := ow1.nc
 have hq2 := ow1.cm
 have hq3 := ow1.byt.1
 have hqx1 : (b ++ formN N1).length = (b).length + (formN N1).length := List.length_append
 refine ⟨_, rfl, ?_⟩
 refine rP 7 19 (pt g 0) rfl rfl ?_
 refine rP 8 20 (pt g 0) rfl rfl ?_
 refine rY 9 rfl rfl (store1 22 (.tmp 20) (.tmp 18) rfl (by kernel_rfl) g 0 (by kernel_rfl) (.slice AA1 nn1 cc1) (by kernel_rfl) rfl 97 #[.slice A n c] (Chg.hp ch1 hg trivial) (by simp)) ?_
 rintro W2 ⟨hb1, ch2⟩
 replace hb1 : W2.heap[g]? = some (.cells #[.slice AA1 nn1 cc1] 97 (0, 0)) := hb1
 have zz2 := ch2.size
 refine rEnd 10 rfl (inN (nxt (reg ?_)))
 refine rQ 0 21 _ rfl rfl (qint64 (n := 0 + 1) (z := 1) (by omega) (by omega) (by omega)) ?_
 refine rP 1 8 (.int .i64 1) rfl rfl ?_
 refine rEnd 2 rfl (nxt (Wk.rdS (wp_seq (reg ?_))))
 refine rQ 0 9 _ rfl rfl (qboolF (b := decide ((1 : Int) < (1 : Int))) (decide_eq_false (by decide))) ?_
 refine rEnd 1 rfl (nxt (wp_seq (wp_cond_false (by kernel_rfl) (wp_exit (thX (thX (inX ?_)))))))
 have ow2 := Mur.own8 (own_chg ow1.own ch2 (fun q e _ _ => ⟨by have := ow1.lt q e; omega, trivial⟩))
 have kk1 : Chg [g] (w) W1 := Chg.step ((Chg.refl _).more (by simp)) ch1 trivial
 have kk2 := Chg.step kk1 ch2 ⟨.inl (by simp), trivial⟩
 refine Wk.retN (.tuple #[]) rfl (by kernel_rfl) ?_
 exact ⟨AA1, nn1, cc1, rfl, hb1, own8_low ow2 (by omega), by omega, kk2⟩
theorem Wuint2_any (g base : Nat) (A : Option Addr) (n c : Nat) (b : List UInt8) (q N1 N2 : Nat) (w : World) (hg : w.heap[g]? = some (.cells #[.slice A n c] 97 (0, 0))) (hbs : g < base ∧ base ≤ w.heap.size) (ho : Own8 w base 5 A n c b) (hn : n ≤ 5000000) (hq : w.heap[q]? = some (.cells #[.int .u64 ((N1 : Nat) : Int), .int .u64 ((N2 : Nat) : Int)] 24 (0, 0))) (hqg : q ≠ g) (hN1 : N1 < 18446744073709551616) (hN2 : N2 < 18446744073709551616) : Calls Tryd.prog 50 #[pt g 0, .slice (some ⟨q, 0, none⟩) 2 2] w fun e w' => ∃ A1 n1 c1, e = .returned (.tuple #[]) ∧ w'.heap[g]? = some (.cells #[.slice A1 n1 c1] 97 (0, 0)) ∧ Own8 w' w.heap.size 5 A1 n1 c1 (b ++ formN N1 ++ formN N2) ∧ n1 ≤ n + 18 ∧ Chg [g] w w' := by
 have hql_ := (Array.getElem?_eq_some_iff.1 hq).1
 have hqg_ := hqg
 have hgl_ := (Array.getElem?_eq_some_iff.1 hg).1
 have hon_ := ho.nc
 have hoc_ := ho.cm
 have hol_ := ho.byt.1
 have hn_ := hn
 have hbs_ := hbs
 have holt_ := ho.lt
 refine calls_of_wp Tryd.func50 rfl ?_
 refine wp_seq (reg ?_)
 refine rP 0 6 (.slice (some ⟨q, 0, none⟩) 2 2) rfl rfl ?_
 refine rP 1 7 (.int .i64 2) rfl rfl ?_
 refine rP 2 8 (.int .i64 0) rfl rfl ?_
 refine rEnd 3 rfl (nxt (wp_block ?_))
 refine Wk.loopN 3 ?_
 refine Wk.rdS (wp_seq (reg ?_))
 refine rQ 0 9 _ rfl rfl (qboolT (b := decide ((0 : Int) < (2 : Int))) (decide_eq_true (by decide))) ?_
 refine rEnd 1 rfl (nxt (wp_seq (wp_cond_true (by kernel_rfl) (wp_skip (nxt (wp_seq (wp_block (wp_seq (reg ?_)))))))))
 refine rQ 0 10 (pt q 0) rfl rfl (index_sl 108 24 (.tmp 6) (.tmp 8) rfl Tryd.underlying108 1 (by kernel_rfl) q 0 2 2 0 .i64 (by kernel_rfl) (by kernel_rfl) (by omega)) ?_
 refine rQ 1 11 _ rfl rfl (ld 24 10 q 0 (.int .u64 ((N1 : Nat) : Int)) ((cell_of_row _ _ 0 _ _ _ hq).trans rfl)) ?_
 refine rP 2 5 (.int .u64 ((N1 : Nat) : Int)) rfl rfl ?_
 refine rEnd 3 rfl (nxt (reg ?_))
 refine rP 0 12 (pt g 0) rfl rfl ?_
 refine rP 1 13 (pt g 0) rfl rfl ?_
 refine rP 2 14 (pt g 0) rfl rfl ?_
 refine rP 3 15 (pt g 0) rfl rfl ?_
 refine rQ 4 16 _ rfl rfl (ld 22 15 g 0 (.slice A n c) ((cell_of_row _ _ 0 _ _ _ hg).trans rfl)) ?_
 refine rP 5 17 (.int .u64 ((N1 : Nat) : Int)) rfl rfl ?_
 refine rC 6 18 79 [.tmp 16, .tmp 17] #[22, 24] [.slice A n c, .int .u64 ((N1 : Nat) : Int)] rfl rfl rfl ?_
 refine (AppendUint_any b A n c N1 w ho.byt ⟨by omega, by omega⟩ ho.nil (by omega) hN1).mono ?_
 rintro _ W1 ⟨AA1, nn1, cc1, rfl, ow1, ch1⟩
 have zz1 := ch1.size
 have hfl1 := formN_len hN1
 have hq1 := ow1.nc
 have hq2 := ow1.cm
 have hq3 := ow1.byt.1
 have hqx1 : (b ++ formN N1).length = (b).length + (formN N1).length := List.length_append
 refine ⟨_, rfl, ?_⟩
 refine rP 7 19 (pt g 0) rfl rfl ?_
 refine rP 8 20 (pt g 0) rfl rfl ?_
 refine rY 9 rfl rfl (store1 22 (.tmp 20) (.tmp 18) rfl (by kernel_rfl) g 0 (by kernel_rfl) (.slice AA1 nn1 cc1) (by kernel_rfl) rfl 97 #[.slice A n c] (Chg.hp ch1 hg trivial) (by simp)) ?_
 rintro W2 ⟨hb1, ch2⟩
 replace hb1 : W2.heap[g]? = some (.cells #[.slice AA1 nn1 cc1] 97 (0, 0)) := hb1
 have zz2 := ch2.size
 refine rEnd 10 rfl (inN (nxt (reg ?_)))
 refine rQ 0 21 _ rfl rfl (qint64 (n := 0 + 1) (z := 1) (by omega) (by omega) (by omega)) ?_
 refine rP 1 8 (.int .i64 1) rfl rfl ?_
 refine rEnd 2 rfl (nxt (Wk.rdS (wp_seq (reg ?_))))
 refine rQ 0 9 _ rfl rfl (qboolT (b := decide ((1 : Int) < (2 : Int))) (decide_eq_true (by decide))) ?_
 refine rEnd 1 rfl (nxt (wp_seq (wp_cond_true (by kernel_rfl) (wp_skip (nxt (wp_seq (wp_block (wp_seq (reg ?_)))))))))
 refine rQ 0 10 (pt q 1) rfl rfl (index_sl 108 24 (.tmp 6) (.tmp 8) rfl Tryd.underlying108 1 (by kernel_rfl) q 0 2 2 1 .i64 (by kernel_rfl) (by kernel_rfl) (by omega)) ?_
 refine rQ 1 11 _ rfl rfl (ld 24 10 q 1 (.int .u64 ((N2 : Nat) : Int)) ((cell_of_row _ _ 1 _ _ _ (Chg.hp ch2 (Chg.hp ch1 hq trivial) ⟨by omega, trivial⟩)).trans rfl)) ?_
 refine rP 2 5 (.int .u64 ((N2 : Nat) : Int)) rfl rfl ?_
 refine rEnd 3 rfl (nxt (reg ?_))
 refine rP 0 12 (pt g 0) rfl rfl ?_
 refine rP 1 13 (pt g 0) rfl rfl ?_
 refine rP 2 14 (pt g 0) rfl rfl ?_
 refine rP 3 15 (pt g 0) rfl rfl ?_
 refine rQ 4 16 _ rfl rfl (ld 22 15 g 0 (.slice AA1 nn1 cc1) ((cell_of_row _ _ 0 _ _ _ hb1).trans rfl)) ?_
 refine rP 5 17 (.int .u64 ((N2 : Nat) : Int)) rfl rfl ?_
 refine rC 6 18 79 [.tmp 16, .tmp 17] #[22, 24] [.slice AA1 nn1 cc1, .int .u64 ((N2 : Nat) : Int)] rfl rfl rfl ?_
 have ow2 := Mur.own8 (own_chg ow1.own ch2 (fun q e _ _ => ⟨by have := ow1.lt q e; omega, trivial⟩))
 refine (AppendUint_any (b ++ formN N1) AA1 nn1 cc1 N2 W2 ow2.byt ⟨by omega, by omega⟩ ow2.nil (by omega) hN2).mono ?_
 rintro _ W3 ⟨AA2, nn2, cc2, rfl, ow3, ch3⟩
 have zz3 := ch3.size
 have hfl2 := formN_len hN2
 have hq4 := ow3.nc
 have hq5 := ow3.cm
 have hq6 := ow3.byt.1
 have hqx2 : (b ++ formN N1 ++ formN N2).length = (b ++ formN N1).length + (formN N2).length := List.length_append
 refine ⟨_, rfl, ?_⟩
 refine rP 7 19 (pt g 0) rfl rfl ?_
 refine rP 8 20 (pt g 0) rfl rfl ?_
 refine rY 9 rfl rfl (store1 22 (.tmp 20) (.tmp 18) rfl (by kernel_rfl) g 0 (by kernel_rfl) (.slice AA2 nn2 cc2) (by kernel_rfl) rfl 97 #[.slice AA1 nn1 cc1] (Chg.hp ch3 hb1 trivial) (by simp)) ?_
 rintro W4 ⟨hb2, ch4⟩
 replace hb2 : W4.heap[g]? = some (.cells #[.slice AA2 nn2 cc2] 97 (0, 0)) := hb2
 have zz4 := ch4.size
 refine rEnd 10 rfl (inN (nxt (reg ?_)))
 refine rQ 0 21 _ rfl rfl (qint64 (n := 1 + 1) (z := 2) (by omega) (by omega) (by omega)) ?_
 refine rP 1 8 (.int .i64 2) rfl rfl ?_
 refine rEnd 2 rfl (nxt (Wk.rdS (wp_seq (reg ?_))))
 refine rQ 0 9 _ rfl rfl (qboolF (b := decide ((2 : Int) < (2 : Int))) (decide_eq_false (by decide))) ?_
 refine rEnd 1 rfl (nxt (wp_seq (wp_cond_false (by kernel_rfl) (wp_exit (thX (thX (inX ?_)))))))
 have ow4 := Mur.own8 (own_chg ow3.own ch4 (fun q e _ _ => ⟨by have := ow3.lt q e; omega, trivial⟩))
 have kk1 : Chg [g] (w) W1 := Chg.step ((Chg.refl _).more (by simp)) ch1 trivial
 have kk2 := Chg.step kk1 ch2 ⟨.inl (by simp), trivial⟩
 have kk3 := Chg.step kk2 ch3 trivial
 have kk4 := Chg.step kk3 ch4 ⟨.inl (by simp), trivial⟩
 refine Wk.retN (.tuple #[]) rfl (by kernel_rfl) ?_
 exact ⟨AA2, nn2, cc2, rfl, hb2, own8_low ow4 (by omega), by omega, kk4⟩
theorem Wuint3_any (g base : Nat) (A : Option Addr) (n c : Nat) (b : List UInt8) (q N1 N2 N3 : Nat) (w : World) (hg : w.heap[g]? = some (.cells #[.slice A n c] 97 (0, 0))) (hbs : g < base ∧ base ≤ w.heap.size) (ho : Own8 w base 5 A n c b) (hn : n ≤ 5000000) (hq : w.heap[q]? = some (.cells #[.int .u64 ((N1 : Nat) : Int), .int .u64 ((N2 : Nat) : Int), .int .u64 ((N3 : Nat) : Int)] 24 (0, 0))) (hqg : q ≠ g) (hN1 : N1 < 18446744073709551616) (hN2 : N2 < 18446744073709551616) (hN3 : N3 < 18446744073709551616) : Calls Tryd.prog 50 #[pt g 0, .slice (some ⟨q, 0, none⟩) 3 3] w fun e w' => ∃ A1 n1 c1, e = .returned (.tuple #[]) ∧ w'.heap[g]? = some (.cells #[.slice A1 n1 c1] 97 (0, 0)) ∧ Own8 w' w.heap.size 5 A1 n1 c1 (b ++ formN N1 ++ formN N2 ++ formN N3) ∧ n1 ≤ n + 27 ∧ Chg [g] w w' := by
 have hql_ := (Array.getElem?_eq_some_iff.1 hq).1
 have hqg_ := hqg
 have hgl_ := (Array.getElem?_eq_some_iff.1 hg).1
 have hon_ := ho.nc
 have hoc_ := ho.cm
 have hol_ := ho.byt.1
 have hn_ := hn
 have hbs_ := hbs
 have holt_ := ho.lt
 refine calls_of_wp Tryd.func50 rfl ?_
 refine wp_seq (reg ?_)
 refine rP 0 6 (.slice (some ⟨q, 0, none⟩) 3 3) rfl rfl ?_
 refine rP 1 7 (.int .i64 3) rfl rfl ?_
 refine rP 2 8 (.int .i64 0) rfl rfl ?_
 refine rEnd 3 rfl (nxt (wp_block ?_))
 refine Wk.loopN 4 ?_
 refine Wk.rdS (wp_seq (reg ?_))
 refine rQ 0 9 _ rfl rfl (qboolT (b := decide ((0 : Int) < (3 : Int))) (decide_eq_true (by decide))) ?_
 refine rEnd 1 rfl (nxt (wp_seq (wp_cond_true (by kernel_rfl) (wp_skip (nxt (wp_seq (wp_block (wp_seq (reg ?_)))))))))
 refine rQ 0 10 (pt q 0) rfl rfl (index_sl 108 24 (.tmp 6) (.tmp 8) rfl Tryd.underlying108 1 (by kernel_rfl) q 0 3 3 0 .i64 (by kernel_rfl) (by kernel_rfl) (by omega)) ?_
 refine rQ 1 11 _ rfl rfl (ld 24 10 q 0 (.int .u64 ((N1 : Nat) : Int)) ((cell_of_row _ _ 0 _ _ _ hq).trans rfl)) ?_
 refine rP 2 5 (.int .u64 ((N1 : Nat) : Int)) rfl rfl ?_
 refine rEnd 3 rfl (nxt (reg ?_))
 refine rP 0 12 (pt g 0) rfl rfl ?_
 refine rP 1 13 (pt g 0) rfl rfl ?_
 refine rP 2 14 (pt g 0) rfl rfl ?_
 refine rP 3 15 (pt g 0) rfl rfl ?_
 refine rQ 4 16 _ rfl rfl (ld 22 15 g 0 (.slice A n c) ((cell_of_row _ _ 0 _ _ _ hg).trans rfl)) ?_
 refine rP 5 17 (.int .u64 ((N1 : Nat) : Int)) rfl rfl ?_
 refine rC 6 18 79 [.tmp 16, .tmp 17] #[22, 24] [.slice A n c, .int .u64 ((N1 : Nat) : Int)] rfl rfl rfl ?_
 refine (AppendUint_any b A n c N1 w ho.byt ⟨by omega, by omega⟩ ho.nil (by omega) hN1).mono ?_
 rintro _ W1 ⟨AA1, nn1, cc1, rfl, ow1, ch1⟩
 have zz1 := ch1.size
 have hfl1 := formN_len hN1
 have hq1 := ow1.nc
 have hq2 := ow1.cm
 have hq3 := ow1.byt.1
 have hqx1 : (b ++ formN N1).length = (b).length + (formN N1).length := List.length_append
 refine ⟨_, rfl, ?_⟩
 refine rP 7 19 (pt g 0) rfl rfl ?_
 refine rP 8 20 (pt g 0) rfl rfl ?_
 refine rY 9 rfl rfl (store1 22 (.tmp 20) (.tmp 18) rfl (by kernel_rfl) g 0 (by kernel_rfl) (.slice AA1 nn1 cc1) (by kernel_rfl) rfl 97 #[.slice A n c] (Chg.hp ch1 hg trivial) (by simp)) ?_
 rintro W2 ⟨hb1, ch2⟩
 replace hb1 : W2.heap[g]? = some (.cells #[.slice AA1 nn1 cc1] 97 (0, 0)) := hb1
 have zz2 := ch2.size
 refine rEnd 10 rfl (inN (nxt (reg ?_)))
 refine rQ 0 21 _ rfl rfl (qint64 (n := 0 + 1) (z := 1) (by omega) (by omega) (by omega)) ?_
 refine rP 1 8 (.int .i64 1) rfl rfl ?_
 refine rEnd 2 rfl (nxt (Wk.rdS (wp_seq (reg ?_))))
 refine rQ 0 9 _ rfl rfl (qboolT (b := decide ((1 : Int) < (3 : Int))) (decide_eq_true (by decide))) ?_
 refine rEnd 1 rfl (nxt (wp_seq (wp_cond_true (by kernel_rfl) (wp_skip (nxt (wp_seq (wp_block (wp_seq (reg ?_)))))))))
 refine rQ 0 10 (pt q 1) rfl rfl (index_sl 108 24 (.tmp 6) (.tmp 8) rfl Tryd.underlying108 1 (by kernel_rfl) q 0 3 3 1 .i64 (by kernel_rfl) (by kernel_rfl) (by omega)) ?_
 refine rQ 1 11 _ rfl rfl (ld 24 10 q 1 (.int .u64 ((N2 : Nat) : Int)) ((cell_of_row _ _ 1 _ _ _ (Chg.hp ch2 (Chg.hp ch1 hq trivial) ⟨by omega, trivial⟩)).trans rfl)) ?_
 refine rP 2 5 (.int .u64 ((N2 : Nat) : Int)) rfl rfl ?_
 refine rEnd 3 rfl (nxt (reg ?_))
 refine rP 0 12 (pt g 0) rfl rfl ?_
 refine rP 1 13 (pt g 0) rfl rfl ?_
 refine rP 2 14 (pt g 0) rfl rfl ?_
 refine rP 3 15 (pt g 0) rfl rfl ?_
 refine rQ 4 16 _ rfl rfl (ld 22 15 g 0 (.slice AA1 nn1 cc1) ((cell_of_row _ _ 0 _ _ _ hb1).trans rfl)) ?_
 refine rP 5 17 (.int .u64 ((N2 : Nat) : Int)) rfl rfl ?_
 refine rC 6 18 79 [.tmp 16, .tmp 17] #[22, 24] [.slice AA1 nn1 cc1, .int .u64 ((N2 : Nat) : Int)] rfl rfl rfl ?_
 have ow2 := Mur.own8 (own_chg ow1.own ch2 (fun q e _ _ => ⟨by have := ow1.lt q e; omega, trivial⟩))
 refine (AppendUint_any (b ++ formN N1) AA1 nn1 cc1 N2 W2 ow2.byt ⟨by omega, by omega⟩ ow2.nil (by omega) hN2).mono ?_
 rintro _ W3 ⟨AA2, nn2, cc2, rfl, ow3, ch3⟩
 have zz3 := ch3.size
 have hfl2 := formN_len hN2
 have hq4 := ow3.nc
 have hq5 := ow3.cm
 have hq6 := ow3.byt.1
 have hqx2 : (b ++ formN N1 ++ formN N2).length = (b ++ formN N1).length + (formN N2).length := List.length_append
 refine ⟨_, rfl, ?_⟩
 refine rP 7 19 (pt g 0) rfl rfl ?_
 refine rP 8 20 (pt g 0) rfl rfl ?_
 refine rY 9 rfl rfl (store1 22 (.tmp 20) (.tmp 18) rfl (by kernel_rfl) g 0 (by kernel_rfl) (.slice AA2 nn2 cc2) (by kernel_rfl) rfl 97 #[.slice AA1 nn1 cc1] (Chg.hp ch3 hb1 trivial) (by simp)) ?_
 rintro W4 ⟨hb2, ch4⟩
 replace hb2 : W4.heap[g]? = some (.cells #[.slice AA2 nn2 cc2] 97 (0, 0)) := hb2
 have zz4 := ch4.size
 refine rEnd 10 rfl (inN (nxt (reg ?_)))
 refine rQ 0 21 _ rfl rfl (qint64 (n := 1 + 1) (z := 2) (by omega) (by omega) (by omega)) ?_
 refine rP 1 8 (.int .i64 2) rfl rfl ?_
 refine rEnd 2 rfl (nxt (Wk.rdS (wp_seq (reg ?_))))
 refine rQ 0 9 _ rfl rfl (qboolT (b := decide ((2 : Int) < (3 : Int))) (decide_eq_true (by decide))) ?_
 refine rEnd 1 rfl (nxt (wp_seq (wp_cond_true (by kernel_rfl) (wp_skip (nxt (wp_seq (wp_block (wp_seq (reg ?_)))))))))
 refine rQ 0 10 (pt q 2) rfl rfl (index_sl 108 24 (.tmp 6) (.tmp 8) rfl Tryd.underlying108 1 (by kernel_rfl) q 0 3 3 2 .i64 (by kernel_rfl) (by kernel_rfl) (by omega)) ?_
 refine rQ 1 11 _ rfl rfl (ld 24 10 q 2 (.int .u64 ((N3 : Nat) : Int)) ((cell_of_row _ _ 2 _ _ _ (Chg.hp ch4 (Chg.hp ch3 (Chg.hp ch2 (Chg.hp ch1 hq trivial) ⟨by omega, trivial⟩) trivial) ⟨by omega, trivial⟩)).trans rfl)) ?_
 refine rP 2 5 (.int .u64 ((N3 : Nat) : Int)) rfl rfl ?_
 refine rEnd 3 rfl (nxt (reg ?_))
 refine rP 0 12 (pt g 0) rfl rfl ?_
 refine rP 1 13 (pt g 0) rfl rfl ?_
 refine rP 2 14 (pt g 0) rfl rfl ?_
 refine rP 3 15 (pt g 0) rfl rfl ?_
 refine rQ 4 16 _ rfl rfl (ld 22 15 g 0 (.slice AA2 nn2 cc2) ((cell_of_row _ _ 0 _ _ _ hb2).trans rfl)) ?_
 refine rP 5 17 (.int .u64 ((N3 : Nat) : Int)) rfl rfl ?_
 refine rC 6 18 79 [.tmp 16, .tmp 17] #[22, 24] [.slice AA2 nn2 cc2, .int .u64 ((N3 : Nat) : Int)] rfl rfl rfl ?_
 have ow4 := Mur.own8 (own_chg ow3.own ch4 (fun q e _ _ => ⟨by have := ow3.lt q e; omega, trivial⟩))
 refine (AppendUint_any (b ++ formN N1 ++ formN N2) AA2 nn2 cc2 N3 W4 ow4.byt ⟨by omega, by omega⟩ ow4.nil (by omega) hN3).mono ?_
 rintro _ W5 ⟨AA3, nn3, cc3, rfl, ow5, ch5⟩
 have zz5 := ch5.size
 have hfl3 := formN_len hN3
 have hq7 := ow5.nc
 have hq8 := ow5.cm
 have hq9 := ow5.byt.1
 have hqx3 : (b ++ formN N1 ++ formN N2 ++ formN N3).length = (b ++ formN N1 ++ formN N2).length + (formN N3).length := List.length_append
 refine ⟨_, rfl, ?_⟩
 refine rP 7 19 (pt g 0) rfl rfl ?_
 refine rP 8 20 (pt g 0) rfl rfl ?_
 refine rY 9 rfl rfl (store1 22 (.tmp 20) (.tmp 18) rfl (by kernel_rfl) g 0 (by kernel_rfl) (.slice AA3 nn3 cc3) (by kernel_rfl) rfl 97 #[.slice AA2 nn2 cc2] (Chg.hp ch5 hb2 trivial) (by simp)) ?_
 rintro W6 ⟨hb3, ch6⟩
 replace hb3 : W6.heap[g]? = some (.cells #[.slice AA3 nn3 cc3] 97 (0, 0)) := hb3
 have zz6 := ch6.size
 refine rEnd 10 rfl (inN (nxt (reg ?_)))
 refine rQ 0 21 _ rfl rfl (qint64 (n := 2 + 1) (z := 3) (by omega) (by omega) (by omega)) ?_
 refine rP 1 8 (.int .i64 3) rfl rfl ?_
 refine rEnd 2 rfl (nxt (Wk.rdS (wp_seq (reg ?_))))
 refine rQ 0 9 _ rfl rfl (qboolF (b := decide ((3 : Int) < (3 : Int))) (decide_eq_false (by decide))) ?_
 refine rEnd 1 rfl (nxt (wp_seq (wp_cond_false (by kernel_rfl) (wp_exit (thX (thX (inX ?_)))))))
 have ow6 := Mur.own8 (own_chg ow5.own ch6 (fun q e _ _ => ⟨by have := ow5.lt q e; omega, trivial⟩))
 have kk1 : Chg [g] (w) W1 := Chg.step ((Chg.refl _).more (by simp)) ch1 trivial
 have kk2 := Chg.step kk1 ch2 ⟨.inl (by simp), trivial⟩
 have kk3 := Chg.step kk2 ch3 trivial
 have kk4 := Chg.step kk3 ch4 ⟨.inl (by simp), trivial⟩
 have kk5 := Chg.step kk4 ch5 trivial
 have kk6 := Chg.step kk5 ch6 ⟨.inl (by simp), trivial⟩
 refine Wk.retN (.tuple #[]) rfl (by kernel_rfl) ?_
 exact ⟨AA3, nn3, cc3, rfl, hb3, own8_low ow6 (by omega), by omega, kk6⟩
theorem Wint1_any (g base : Nat) (A : Option Addr) (n c : Nat) (b : List UInt8) (q : Nat) (i1 : Int) (w : World) (hg : w.heap[g]? = some (.cells #[.slice A n c] 97 (0, 0))) (hbs : g < base ∧ base ≤ w.heap.size) (ho : Own8 w base 5 A n c b) (hn : n ≤ 4000000) (hq : w.heap[q]? = some (.cells #[.int .i64 i1] 3 (0, 0))) (hqg : q ≠ g) : Calls Tryd.prog 49 #[pt g 0, .slice (some ⟨q, 0, none⟩) 1 1] w fun e w' => ∃ A1 n1 c1, e = .returned (.tuple #[]) ∧ w'.heap[g]? = some (.cells #[.slice A1 n1 c1] 97 (0, 0)) ∧ Own8 w' w.heap.size 5 A1 n1 c1 (b ++ formN (u64n i1)) ∧ n1 ≤ n + 9 ∧ Chg [g] w w' := by
 have hql_ := (Array.getElem?_eq_some_iff.1 hq).1
 have hqg_ := hqg
 have hgl_ := (Array.getElem?_eq_some_iff.1 hg).1
 have hon_ := ho.nc
 have hoc_ := ho.cm
 have hol_ := ho.byt.1
 have hn_ := hn
 have hbs_ := hbs
 have holt_ := ho.lt
 refine calls_of_wp Tryd.func49 rfl ?_
 refine wp_seq (reg ?_)
 refine rP 0 6 (.slice (some ⟨q, 0, none⟩) 1 1) rfl rfl ?_
 refine rP 1 7 (.int .i64 1) rfl rfl ?_
 refine rP 2 8 (.int .i64 0) rfl rfl ?_
 refine rEnd 3 rfl (nxt (wp_block ?_))
 refine Wk.loopN 2 ?_
 refine Wk.rdS (wp_seq (reg ?_))
 refine rQ 0 9 _ rfl rfl (qboolT (b := decide ((0 : Int) < (1 : Int))) (decide_eq_true (by decide))) ?_
 refine rEnd 1 rfl (nxt (wp_seq (wp_cond_true (by kernel_rfl) (wp_skip (nxt (wp_seq (wp_block (wp_seq (reg ?_)))))))))
 refine rQ 0 10 (pt q 0) rfl rfl (index_sl 110 3 (.tmp 6) (.tmp 8) rfl Tryd.underlying110 1 (by kernel_rfl) q 0 1 1 0 .i64 (by kernel_rfl) (by kernel_rfl) (by omega)) ?_
 refine rQ 1 11 _ rfl rfl (ld 3 10 q 0 (.int .i64 i1) ((cell_of_row _ _ 0 _ _ _ hq).trans rfl)) ?_
 refine rP 2 5 (.int .i64 i1) rfl rfl ?_
 refine rEnd 3 rfl (nxt (reg ?_))
 refine rP 0 12 (pt g 0) rfl rfl ?_
 refine rP 1 13 (.int .i64 i1) rfl rfl ?_
 refine rQ 2 14 (.int .u64 ((u64n i1 : Nat) : Int)) rfl rfl (conv_u64n 3 24 (.tmp 13) rfl (by kernel_rfl) Tryd.underlying24 .i64 i1 (by kernel_rfl)) ?_
 refine rX 3 15 rfl rfl (new_ex (.slice (some ⟨w.heap.size, 0, none⟩) 1 1) #[.int .u64 ((u64n i1 : Nat) : Int)] 24 (by kernel_rfl)) ?_
 rintro _ W1 ⟨rfl, hb1, ch1, sz1⟩
 have zz1 := ch1.size
 refine rC 4 16 50 [.tmp 12, .tmp 15] #[95, 108] [pt g 0, .slice (some ⟨w.heap.size, 0, none⟩) 1 1] rfl rfl rfl ?_
 have ow1 := Mur.own8 (own_chg ho.own ch1 (fun q e _ _ => trivial))
 refine (Wuint1_any g base A n c b w.heap.size (u64n i1) W1 (Chg.hp ch1 hg trivial) ⟨by omega, by omega⟩ ow1 (by omega) hb1 (by omega) (u64n_lt _)).mono ?_
 rintro _ W2 ⟨AA1, nn1, cc1, rfl, hgw1, ow2, hle1, ch2⟩
 have zz2 := ch2.size
 have hq1 := ow2.nc
 have hq2 := ow2.cm
 have hq3 := ow2.byt.1
 refine ⟨_, rfl, ?_⟩
 refine rEnd 5 rfl (inN (nxt (reg ?_)))
 refine rQ 0 17 _ rfl rfl (qint64 (n := 0 + 1) (z := 1) (by omega) (by omega) (by omega)) ?_
 refine rP 1 8 (.int .i64 1) rfl rfl ?_
 refine rEnd 2 rfl (nxt (Wk.rdS (wp_seq (reg ?_))))
 refine rQ 0 9 _ rfl rfl (qboolF (b := decide ((1 : Int) < (1 : Int))) (decide_eq_false (by decide))) ?_
 refine rEnd 1 rfl (nxt (wp_seq (wp_cond_false (by kernel_rfl) (wp_exit (thX (thX (inX ?_)))))))
 have kk1 : Chg [g] (w) W1 := Chg.step ((Chg.refl _).more (by simp)) ch1 trivial
 have kk2 := Chg.step kk1 ch2 ⟨.inl (by simp), trivial⟩
 refine Wk.retN (.tuple #[]) rfl (by kernel_rfl) ?_
 exact ⟨AA1, nn1, cc1, rfl, hgw1, own8_low ow2 (by omega), by omega, kk2⟩
theorem Wint3_any (g base : Nat) (A : Option Addr) (n c : Nat) (b : List UInt8) (q : Nat) (i1 i2 i3 : Int) (w : World) (hg : w.heap[g]? = some (.cells #[.slice A n c] 97 (0, 0))) (hbs : g < base ∧ base ≤ w.heap.size) (ho : Own8 w base 5 A n c b) (hn : n ≤ 4000000) (hq : w.heap[q]? = some (.cells #[.int .i64 i1, .int .i64 i2, .int .i64 i3] 3 (0, 0))) (hqg : q ≠ g) : Calls Tryd.prog 49 #[pt g 0, .slice (some ⟨q, 0, none⟩) 3 3] w fun e w' => ∃ A1 n1 c1, e = .returned (.tuple #[]) ∧ w'.heap[g]? = some (.cells #[.slice A1 n1 c1] 97 (0, 0)) ∧ Own8 w' w.heap.size 5 A1 n1 c1 (b ++ formN (u64n i1) ++ formN (u64n i2) ++ formN (u64n i3)) ∧ n1 ≤ n + 27 ∧ Chg [g] w w' := by
 have hql_ := (Array.getElem?_eq_some_iff.1 hq).1
 have hqg_ := hqg
 have hgl_ := (Array.getElem?_eq_some_iff.1 hg).1
 have hon_ := ho.nc
 have hoc_ := ho.cm
 have hol_ := ho.byt.1
 have hn_ := hn
 have hbs_ := hbs
 have holt_ := ho.lt
 refine calls_of_wp Tryd.func49 rfl ?_
 refine wp_seq (reg ?_)
 refine rP 0 6 (.slice (some ⟨q, 0, none⟩) 3 3) rfl rfl ?_
 refine rP 1 7 (.int .i64 3) rfl rfl ?_
 refine rP 2 8 (.int .i64 0) rfl rfl ?_
 refine rEnd 3 rfl (nxt (wp_block ?_))
 refine Wk.loopN 4 ?_
 refine Wk.rdS (wp_seq (reg ?_))
 refine rQ 0 9 _ rfl rfl (qboolT (b := decide ((0 : Int) < (3 : Int))) (decide_eq_true (by decide))) ?_
 refine rEnd 1 rfl (nxt (wp_seq (wp_cond_true (by kernel_rfl) (wp_skip (nxt (wp_seq (wp_block (wp_seq (reg ?_)))))))))
 refine rQ 0 10 (pt q 0) rfl rfl (index_sl 110 3 (.tmp 6) (.tmp 8) rfl Tryd.underlying110 1 (by kernel_rfl) q 0 3 3 0 .i64 (by kernel_rfl) (by kernel_rfl) (by omega)) ?_
 refine rQ 1 11 _ rfl rfl (ld 3 10 q 0 (.int .i64 i1) ((cell_of_row _ _ 0 _ _ _ hq).trans rfl)) ?_
 refine rP 2 5 (.int .i64 i1) rfl rfl ?_
 refine rEnd 3 rfl (nxt (reg ?_))
 refine rP 0 12 (pt g 0) rfl rfl ?_
 refine rP 1 13 (.int .i64 i1) rfl rfl ?_
 refine rQ 2 14 (.int .u64 ((u64n i1 : Nat) : Int)) rfl rfl (conv_u64n 3 24 (.tmp 13) rfl (by kernel_rfl) Tryd.underlying24 .i64 i1 (by kernel_rfl)) ?_
 refine rX 3 15 rfl rfl (new_ex (.slice (some ⟨w.heap.size, 0, none⟩) 1 1) #[.int .u64 ((u64n i1 : Nat) : Int)] 24 (by kernel_rfl)) ?_
 rintro _ W1 ⟨rfl, hb1, ch1, sz1⟩
 have zz1 := ch1.size
 refine rC 4 16 50 [.tmp 12, .tmp 15] #[95, 108] [pt g 0, .slice (some ⟨w.heap.size, 0, none⟩) 1 1] rfl rfl rfl ?_
 have ow1 := Mur.own8 (own_chg ho.own ch1 (fun q e _ _ => trivial))
 refine (Wuint1_any g base A n c b w.heap.size (u64n i1) W1 (Chg.hp ch1 hg trivial) ⟨by omega, by omega⟩ ow1 (by omega) hb1 (by omega) (u64n_lt _)).mono ?_
 rintro _ W2 ⟨AA1, nn1, cc1, rfl, hgw1, ow2, hle1, ch2⟩
 have zz2 := ch2.size
 have hq1 := ow2.nc
 have hq2 := ow2.cm
 have hq3 := ow2.byt.1
 refine ⟨_, rfl, ?_⟩
 refine rEnd 5 rfl (inN (nxt (reg ?_)))
 refine rQ 0 17 _ rfl rfl (qint64 (n := 0 + 1) (z := 1) (by omega) (by omega) (by omega)) ?_
 refine rP 1 8 (.int .i64 1) rfl rfl ?_
 refine rEnd 2 rfl (nxt (Wk.rdS (wp_seq (reg ?_))))
 refine rQ 0 9 _ rfl rfl (qboolT (b := decide ((1 : Int) < (3 : Int))) (decide_eq_true (by decide))) ?_
 refine rEnd 1 rfl (nxt (wp_seq (wp_cond_true (by kernel_rfl) (wp_skip (nxt (wp_seq (wp_block (wp_seq (reg ?_)))))))))
 refine rQ 0 10 (pt q 1) rfl rfl (index_sl 110 3 (.tmp 6) (.tmp 8) rfl Tryd.underlying110 1 (by kernel_rfl) q 0 3 3 1 .i64 (by kernel_rfl) (by kernel_rfl) (by omega)) ?_
 refine rQ 1 11 _ rfl rfl (ld 3 10 q 1 (.int .i64 i2) ((cell_of_row _ _ 1 _ _ _ (Chg.hp ch2 (Chg.hp ch1 hq trivial) ⟨by omega, trivial⟩)).trans rfl)) ?_
 refine rP 2 5 (.int .i64 i2) rfl rfl ?_
 refine rEnd 3 rfl (nxt (reg ?_))
 refine rP 0 12 (pt g 0) rfl rfl ?_
 refine rP 1 13 (.int .i64 i2) rfl rfl ?_
 refine rQ 2 14 (.int .u64 ((u64n i2 : Nat) : Int)) rfl rfl (conv_u64n 3 24 (.tmp 13) rfl (by kernel_rfl) Tryd.underlying24 .i64 i2 (by kernel_rfl)) ?_
 refine rX 3 15 rfl rfl (new_ex (.slice (some ⟨W2.heap.size, 0, none⟩) 1 1) #[.int .u64 ((u64n i2 : Nat) : Int)] 24 (by kernel_rfl)) ?_
 rintro _ W3 ⟨rfl, hb2, ch3, sz2⟩
 have zz3 := ch3.size
 refine rC 4 16 50 [.tmp 12, .tmp 15] #[95, 108] [pt g 0, .slice (some ⟨W2.heap.size, 0, none⟩) 1 1] rfl rfl rfl ?_
 have ow3 := Mur.own8 (own_chg ow2.own ch3 (fun q e _ _ => trivial))
 refine (Wuint1_any g W1.heap.size AA1 nn1 cc1 (b ++ formN (u64n i1)) W2.heap.size (u64n i2) W3 (Chg.hp ch3 hgw1 trivial) ⟨by omega, by omega⟩ ow3 (by omega) hb2 (by omega) (u64n_lt _)).mono ?_
 rintro _ W4 ⟨AA2, nn2, cc2, rfl, hgw2, ow4, hle2, ch4⟩
 have zz4 := ch4.size
 have hq4 := ow4.nc
 have hq5 := ow4.cm
 have hq6 := ow4.byt.1
 refine ⟨_, rfl, ?_⟩
 refine rEnd 5 rfl (inN (nxt (reg ?_)))
 refine rQ 0 17 _ rfl rfl (qint64 (n := 1 + 1) (z := 2) (by omega) (by omega) (by omega)) ?_
 refine rP 1 8 (.int .i64 2) rfl rfl ?_
 refine rEnd 2 rfl (nxt (Wk.rdS (wp_seq (reg ?_))))
 refine rQ 0 9 _ rfl rfl (qboolT (b := decide ((2 : Int) < (3 : Int))) (decide_eq_true (by decide))) ?_
 refine rEnd 1 rfl (nxt (wp_seq (wp_cond_true (by kernel_rfl) (wp_skip (nxt (wp_seq (wp_block (wp_seq (reg ?_)))))))))
 refine rQ 0 10 (pt q 2) rfl rfl (index_sl 110 3 (.tmp 6) (.tmp 8) rfl Tryd.underlying110 1 (by kernel_rfl) q 0 3 3 2 .i64 (by kernel_rfl) (by kernel_rfl) (by omega)) ?_
 refine rQ 1 11 _ rfl rfl (ld 3 10 q 2 (.int .i64 i3) ((cell_of_row _ _ 2 _ _ _ (Chg.hp ch4 (Chg.hp ch3 (Chg.hp ch2 (Chg.hp ch1 hq trivial) ⟨by omega, trivial⟩) trivial) ⟨by omega, trivial⟩)).trans rfl)) ?_
 refine rP 2 5 (.int .i64 i3) rfl rfl ?_
 refine rEnd 3 rfl (nxt (reg ?_))
 refine rP 0 12 (pt g 0) rfl rfl ?_
 refine rP 1 13 (.int .i64 i3) rfl rfl ?_
 refine rQ 2 14 (.int .u64 ((u64n i3 : Nat) : Int)) rfl rfl (conv_u64n 3 24 (.tmp 13) rfl (by kernel_rfl) Tryd.underlying24 .i64 i3 (by kernel_rfl)) ?_
 refine rX 3 15 rfl rfl (new_ex (.slice (some ⟨W4.heap.size, 0, none⟩) 1 1) #[.int .u64 ((u64n i3 : Nat) : Int)] 24 (by kernel_rfl)) ?_
 rintro _ W5 ⟨rfl, hb3, ch5, sz3⟩
 have zz5 := ch5.size
 refine rC 4 16 50 [.tmp 12, .tmp 15] #[95, 108] [pt g 0, .slice (some ⟨W4.heap.size, 0, none⟩) 1 1] rfl rfl rfl ?_
 have ow5 := Mur.own8 (own_chg ow4.own ch5 (fun q e _ _ => trivial))
 refine (Wuint1_any g W3.heap.size AA2 nn2 cc2 (b ++ formN (u64n i1) ++ formN (u64n i2)) W4.heap.size (u64n i3) W5 (Chg.hp ch5 hgw2 trivial) ⟨by omega, by omega⟩ ow5 (by omega) hb3 (by omega) (u64n_lt _)).mono ?_
 rintro _ W6 ⟨AA3, nn3, cc3, rfl, hgw3, ow6, hle3, ch6⟩
 have zz6 := ch6.size
 have hq7 := ow6.nc
 have hq8 := ow6.cm
 have hq9 := ow6.byt.1
 refine ⟨_, rfl, ?_⟩
 refine rEnd 5 rfl (inN (nxt (reg ?_)))
 refine rQ 0 17 _ rfl rfl (qint64 (n := 2 + 1) (z := 3) (by omega) (by omega) (by omega)) ?_
 refine rP 1 8 (.int .i64 3) rfl rfl ?_
 refine rEnd 2 rfl (nxt (Wk.rdS (wp_seq (reg ?_))))
 refine rQ 0 9 _ rfl rfl (qboolF (b := decide ((3 : Int) < (3 : Int))) (decide_eq_false (by decide))) ?_
 refine rEnd 1 rfl (nxt (wp_seq (wp_cond_false (by kernel_rfl) (wp_exit (thX (thX (inX ?_)))))))
 have kk1 : Chg [g] (w) W1 := Chg.step ((Chg.refl _).more (by simp)) ch1 trivial
 have kk2 := Chg.step kk1 ch2 ⟨.inl (by simp), trivial⟩
 have kk3 := Chg.step kk2 ch3 trivial
 have kk4 := Chg.step kk3 ch4 ⟨.inl (by simp), trivial⟩
 have kk5 := Chg.step kk4 ch5 trivial
 have kk6 := Chg.step kk5 ch6 ⟨.inl (by simp), trivial⟩
 refine Wk.retN (.tuple #[]) rfl (by kernel_rfl) ?_
 exact ⟨AA3, nn3, cc3, rfl, hgw3, own8_low ow6 (by omega), by omega, kk6⟩
theorem Wflag_any (g base : Nat) (A : Option Addr) (n c : Nat) (b : List UInt8) (fl : Bool) (w : World) (hg : w.heap[g]? = some (.cells #[.slice A n c] 97 (0, 0))) (hbs : g < base ∧ base ≤ w.heap.size) (ho : Own8 w base 5 A n c b) (hn : n ≤ 3000000) : Calls Tryd.prog 57 #[pt g 0, .bool fl] w fun e w' => ∃ A1 n1 c1, e = .returned (.tuple #[]) ∧ w'.heap[g]? = some (.cells #[.slice A1 n1 c1] 97 (0, 0)) ∧ Own8 w' w.heap.size 5 A1 n1 c1 (b ++ formN (Mur.flagN fl)) ∧ n1 ≤ n + 9 ∧ Chg [g] w w' := by
 have hgl_ := (Array.getElem?_eq_some_iff.1 hg).1
 have hon_ := ho.nc
 have hoc_ := ho.cm
 have hol_ := ho.byt.1
 have hn_ := hn
 have hbs_ := hbs
 have holt_ := ho.lt
 refine calls_of_wp Tryd.func57 rfl ?_
 refine wp_seq (reg ?_)
 refine rP 0 4 (.bool fl) rfl rfl ?_
 refine rEnd 1 rfl (nxt ?_)
 cases fl
 ·refine wp_cond_false (by kernel_rfl) (reg ?_)
  refine rP 0 8 (pt g 0) rfl rfl ?_
  refine rX 1 9 rfl rfl (new_ex (.slice (some ⟨w.heap.size, 0, none⟩) 1 1) #[.int .i64 0] 3 (by kernel_rfl)) ?_
  rintro _ W1 ⟨rfl, hb1, ch1, sz1⟩
  have zz1 := ch1.size
  refine rC 2 10 49 [.tmp 8, .tmp 9] #[95, 110] [pt g 0, .slice (some ⟨w.heap.size, 0, none⟩) 1 1] rfl rfl rfl ?_
  have ow1 := Mur.own8 (own_chg ho.own ch1 (fun q e _ _ => trivial))
  refine (Wint1_any g base A n c b w.heap.size 0 W1 (Chg.hp ch1 hg trivial) ⟨by omega, by omega⟩ ow1 (by omega) hb1 (by omega)).mono ?_
  rintro _ W2 ⟨AA1, nn1, cc1, rfl, hgw1, ow2, hle1, ch2⟩
  have zz2 := ch2.size
  have hq1 := ow2.nc
  have hq2 := ow2.cm
  have hq3 := ow2.byt.1
  refine ⟨_, rfl, ?_⟩
  refine rEnd 3 rfl ?_
  have kk1 : Chg [g] (w) W1 := Chg.step ((Chg.refl _).more (by simp)) ch1 trivial
  have kk2 := Chg.step kk1 ch2 ⟨.inl (by simp), trivial⟩
  refine Wk.retN (.tuple #[]) rfl (by kernel_rfl) ?_
  exact ⟨AA1, nn1, cc1, rfl, hgw1, own8_low ow2 (by omega), by omega, kk2⟩
 refine wp_cond_true (by kernel_rfl) (reg ?_)
 refine rP 0 5 (pt g 0) rfl rfl ?_
 refine rX 1 6 rfl rfl (new_ex (.slice (some ⟨w.heap.size, 0, none⟩) 1 1) #[.int .i64 1] 3 (by kernel_rfl)) ?_
 rintro _ W3 ⟨rfl, hb2, ch3, sz2⟩
 have zz3 := ch3.size
 refine rC 2 7 49 [.tmp 5, .tmp 6] #[95, 110] [pt g 0, .slice (some ⟨w.heap.size, 0, none⟩) 1 1] rfl rfl rfl ?_
 have ow3 := Mur.own8 (own_chg ho.own ch3 (fun q e _ _ => trivial))
 refine (Wint1_any g base A n c b w.heap.size 1 W3 (Chg.hp ch3 hg trivial) ⟨by omega, by omega⟩ ow3 (by omega) hb2 (by omega)).mono ?_
 rintro _ W4 ⟨AA2, nn2, cc2, rfl, hgw2, ow4, hle2, ch4⟩
 have zz4 := ch4.size
 have hq4 := ow4.nc
 have hq5 := ow4.cm
 have hq6 := ow4.byt.1
 refine ⟨_, rfl, ?_⟩
 refine rEnd 3 rfl ?_
 have kk3 : Chg [g] (w) W3 := Chg.step ((Chg.refl _).more (by simp)) ch3 trivial
 have kk4 := Chg.step kk3 ch4 ⟨.inl (by simp), trivial⟩
 refine Wk.retN (.tuple #[]) rfl (by kernel_rfl) ?_
 exact ⟨AA2, nn2, cc2, rfl, hgw2, own8_low ow4 (by omega), by omega, kk4⟩
theorem Wbytes_any (g base : Nat) (A : Option Addr) (n c : Nat) (b : List UInt8) (x : List UInt8) (B : Option Addr) (m d : Nat) (w : World) (hg : w.heap[g]? = some (.cells #[.slice A n c] 97 (0, 0))) (hbs : g < base ∧ base ≤ w.heap.size) (ho : Own8 w base 5 A n c b) (hn : n ≤ 3000000) (hx : Byt w B m x) (hmd : m ≤ d ∧ d ≤ 9223372036854775807) (hnil : B = none → d = 0) (hm : m ≤ 100000) (hbB : ∀ g2 off, B = some ⟨g2, off, none⟩ → 0 < m → g2 ≠ g) : Calls Tryd.prog 53 #[pt g 0, .slice B m d] w fun e w' => ∃ A1 n1 c1, e = .returned (.tuple #[]) ∧ w'.heap[g]? = some (.cells #[.slice A1 n1 c1] 97 (0, 0)) ∧ Own8 w' w.heap.size 5 A1 n1 c1 (b ++ (formN x.length ++ x)) ∧ n1 ≤ n + 9 + m ∧ Chg [g] w w' := by
 have hmd_ := hmd
 have hxl_ := hx.1
 rw [hxl_]
 have hgl_ := (Array.getElem?_eq_some_iff.1 hg).1
 have hon_ := ho.nc
 have hoc_ := ho.cm
 have hol_ := ho.byt.1
 have hn_ := hn
 have hbs_ := hbs
 have holt_ := ho.lt
 refine calls_of_wp Tryd.func53 rfl ?_
 refine wp_seq (reg ?_)
 refine rP 0 4 (pt g 0) rfl rfl ?_
 refine rP 1 5 (.slice B m d) rfl rfl ?_
 refine rP 2 6 (.int .i64 ((m : Nat) : Int)) rfl rfl ?_
 refine rX 3 7 rfl rfl (new_ex (.slice (some ⟨w.heap.size, 0, none⟩) 1 1) #[.int .i64 ((m : Nat) : Int)] 3 (by kernel_rfl)) ?_
 rintro _ W1 ⟨rfl, hb1, ch1, sz1⟩
 have zz1 := ch1.size
 refine rC 4 8 49 [.tmp 4, .tmp 7] #[95, 110] [pt g 0, .slice (some ⟨w.heap.size, 0, none⟩) 1 1] rfl rfl rfl ?_
 have ow1 := Mur.own8 (own_chg ho.own ch1 (fun q e _ _ => trivial))
 refine (Wint1_any g base A n c b w.heap.size ((m : Nat) : Int) W1 (Chg.hp ch1 hg trivial) ⟨by omega, by omega⟩ ow1 (by omega) hb1 (by omega)).mono ?_
 rintro _ W2 ⟨AA1, nn1, cc1, rfl, hgw1, ow2, hle1, ch2⟩
 have zz2 := ch2.size
 have hq1 := ow2.nc
 have hq2 := ow2.cm
 have hq3 := ow2.byt.1
 refine ⟨_, rfl, ?_⟩
 refine rEnd 5 rfl (nxt (reg ?_))
 refine rP 0 9 (pt g 0) rfl rfl ?_
 refine rP 1 10 (pt g 0) rfl rfl ?_
 refine rP 2 11 (pt g 0) rfl rfl ?_
 refine rP 3 12 (pt g 0) rfl rfl ?_
 refine rQ 4 13 _ rfl rfl (ld 22 12 g 0 (.slice AA1 nn1 cc1) ((cell_of_row _ _ 0 _ _ _ hgw1).trans rfl)) ?_
 refine rP 5 14 (.slice B m d) rfl rfl ?_
 refine rX 6 15 rfl rfl (Mur.append8 (.tmp 13) (.tmp 14) 22 5 rfl Tryd.underlying22 (by kernel_rfl) W1.heap.size AA1 nn1 cc1 (b ++ formN (u64n ((m : Nat) : Int))) B m d x (by kernel_rfl) (by kernel_rfl) ow2.own (byt_chgp (byt_chgp hx ch1 (fun g off e hn hl => trivial)) ch2 (fun g off e hn hl => ⟨by have := hbB g off e hn; omega, trivial⟩)) hnil (by omega) (by omega) (nn1 + m) (by omega) ((b ++ formN (u64n ((m : Nat) : Int))) ++ x) rfl) ?_
 rintro _ W3 ⟨AA2, nn2, rfl, ow3, ch3, ha1⟩
 have zz3 := ch3.size
 have hq4 := ow3.nc
 have hq5 := ow3.cm
 refine rP 7 16 (pt g 0) rfl rfl ?_
 refine rP 8 17 (pt g 0) rfl rfl ?_
 refine rY 9 rfl rfl (store1 22 (.tmp 17) (.tmp 15) rfl (by kernel_rfl) g 0 (by kernel_rfl) (.slice AA2 (nn1 + m) nn2) (by kernel_rfl) rfl 97 #[.slice AA1 nn1 cc1] (Chg.hp ch3 hgw1 (off_blk (fun gz hgz => by have := ow2.lt gz hgz; omega))) (by simp)) ?_
 rintro W4 ⟨hb2, ch4⟩
 replace hb2 : W4.heap[g]? = some (.cells #[.slice AA2 (nn1 + m) nn2] 97 (0, 0)) := hb2
 have zz4 := ch4.size
 refine rEnd 10 rfl ?_
 have ow4 := Mur.own8 (own_chg ow3.own ch4 (fun q e _ _ => ⟨by have := ow3.lt q e; omega, trivial⟩))
 have kk1 : Chg [g] (w) W1 := Chg.step ((Chg.refl _).more (by simp)) ch1 trivial
 have kk2 := Chg.step kk1 ch2 ⟨.inl (by simp), trivial⟩
 have kk3 := Chg.step kk2 ch3 (newOr_blk (fun g hg => by have := ow2.lt g hg; omega))
 have kk4 := Chg.step kk3 ch4 ⟨.inl (by simp), trivial⟩
 have hH_ := ow4
 rw [Mur.u64n_of (by omega), List.append_assoc] at hH_
 refine Wk.retN (.tuple #[]) rfl (by kernel_rfl) ?_
 exact ⟨AA2, nn1 + m, nn2, rfl, hb2, own8_low hH_ (by omega), by omega, kk4⟩
end Go.Proofs.YtgbadghjnpbiaaaDoor
namespace Go.Proofs.YtgbadghjnpbiaaaDoor
open Go.RowKit Wk
open Mur (b8s Byt Own8 Seg Segs flat cutA attC)
set_option maxRecDepth 100000
set_option maxHeartbeats 4000000
theorem Read_no (g off c : Nat) (b K R E T : List UInt8) (V : Nat) (w : World) (hb : Byt w (some ⟨g, off, none⟩) 104 b) (hc : 104 ≤ c) (hK : (b.take 32).drop 0 = K) (hR : (b.take 64).drop 32 = R) (hE : (b.take 72).drop 64 = E) (hT : (b.take 104).drop 72 = T) (hV : Mur.be8 E = V) (hm : ¬ (1 ≤ V ∧ V ≤ 5000)) : Calls Tryd.prog 68 #[.slice (some ⟨g, off, none⟩) 104 c] w fun e w' => e = .returned (.tuple #[.agg (attC Mur.z32 Mur.z32 0 Mur.z32).toArray, .int .i64 5]) ∧ Chg [] w w' := by
 have hb0 : Byt w (some ⟨g, off + 0, none⟩) 32 K := by have := Mur.byt_sub hb 0 32 32 rfl (by omega); rw [hK] at this; exact this
 have hb32 : Byt w (some ⟨g, off + 32, none⟩) 32 R := by have := Mur.byt_sub hb 32 64 32 rfl (by omega); rw [hR] at this; exact this
 have hb64 : Byt w (some ⟨g, off + 64, none⟩) 8 E := by have := Mur.byt_sub hb 64 72 8 rfl (by omega); rw [hE] at this; exact this
 have hb72 : Byt w (some ⟨g, off + 72, none⟩) 32 T := by have := Mur.byt_sub hb 72 104 32 rfl (by omega); rw [hT] at this; exact this
 have hx0_ := (E.getD 0 0).toNat_lt
 have hx1_ := (E.getD 1 0).toNat_lt
 have hx2_ := (E.getD 2 0).toNat_lt
 have hx3_ := (E.getD 3 0).toNat_lt
 have hx4_ := (E.getD 4 0).toNat_lt
 have hx5_ := (E.getD 5 0).toNat_lt
 have hx6_ := (E.getD 6 0).toNat_lt
 have hx7_ := (E.getD 7 0).toNat_lt
 refine calls_of_wp Tryd.func68 rfl ?_
 refine wp_seq (reg ?_)
 refine rX 0 2 rfl rfl (new_ex (pt w.heap.size 0) (Mur.attC Mur.z32 Mur.z32 0 Mur.z32).toArray 36 (by kernel_rfl)) ?_
 rintro _ W1 ⟨rfl, hb1, ch1, sz1⟩
 have zz1 := ch1.size
 refine rP 1 3 (.int .i64 0) rfl rfl ?_
 refine rEnd 2 rfl (nxt (wp_seq (wp_seq (reg ?_))))
 refine rP 0 7 (.slice (some ⟨g, off, none⟩) 104 c) rfl rfl ?_
 refine rP 1 8 (.int .i64 104) rfl rfl ?_
 refine rQ 2 9 _ rfl rfl (qboolF (b := ((104 : Int) != (104 : Int))) (bne_eq_false_iff_eq.2 (by decide))) ?_
 refine rEnd 3 rfl (nxt (wp_cond_false (by kernel_rfl) (wp_skip (nxt (wp_seq ?_)))))
 refine dReg ([w.heap.size]) (by kernel_rfl) ?_
 intro W2 ch2 sz2
 have zz2 := ch2.size
 have sS1 : Chg ([w.heap.size]) W2 W2 := (Chg.refl _).more (by simp)
 refine dV 0 11 (pt w.heap.size 0) rfl rfl (fun _ _ => by kernel_rfl) sS1 ?_
 refine dV 1 12 (.slice (some ⟨w.heap.size, 0, none⟩) 32 32) rfl rfl (fun w' hw' => (Mur.arr_slice 29 5 (.tmp 11) 32 rfl Tryd.underlying29 (by kernel_rfl) w.heap.size (by kernel_rfl))) sS1 ?_
 refine dV 2 13 (.slice (some ⟨g, off, none⟩) 104 c) rfl rfl (fun _ _ => by kernel_rfl) sS1 ?_
 refine dV 3 14 (.slice (some ⟨g, off + 0, none⟩) 32 32) rfl rfl (fun w' hw' => (Mur.run_cut3 22 (.tmp 13) none (.const (.int .i64 32)) (.const (.int .i64 32)) rfl 5 Tryd.underlying22 (by kernel_rfl) g off 104 c 0 32 32 32 (by kernel_rfl) (.inr ⟨rfl, rfl⟩) (by kernel_rfl) (by kernel_rfl) rfl rfl (by omega) (by omega))) sS1 ?_
 refine dOp 4 (by kernel_rfl) ?_
 have kk1 : Chg [] w W1 := Chg.step ((Chg.refl _).more (by simp)) ch1 trivial
 have kk2 := Chg.step kk1 ch2 trivial
 refine oEx (some 15) _ rfl rfl (by kernel_rfl) (Mur.copy_mid (.tmp 12) (.tmp 14) 22 22 rfl 5 Tryd.underlying22 (by kernel_rfl) w.heap.size 0 32 32 (by kernel_rfl) (some ⟨g, off + 0, none⟩) 32 32 (by kernel_rfl) 36 (Mur.attC Mur.z32 Mur.z32 0 Mur.z32) K (Chg.hp ch2 hb1 trivial) (Mur.byt_chg hb0 kk2 (fun g off e hl => trivial)) (by omega) (by omega) (by rw [Mur.attC_length rfl rfl rfl]; omega) _ (Mur.att_sp0 rfl hb0.1)) ?_
 rintro _ W3 ⟨rfl, hb2, ch3⟩
 have zz3 := ch3.size
 have sS2 := Chg.step sS1 ch3 ⟨.inl (by simp), trivial⟩
 refine ⟨sS2, ?_⟩
 refine dEnd (by kernel_rfl) (nxt (wp_seq ?_))
 refine dReg ([w.heap.size]) (by kernel_rfl) ?_
 intro W4 ch4 sz3
 have zz4 := ch4.size
 have sS3 : Chg ([w.heap.size]) W4 W4 := (Chg.refl _).more (by simp)
 refine dV 0 16 (pt w.heap.size 32) rfl rfl (fun _ _ => by kernel_rfl) sS3 ?_
 refine dV 1 17 (.slice (some ⟨w.heap.size, 32, none⟩) 32 32) rfl rfl (fun w' hw' => (Mur.arr_slice_at 29 5 (.tmp 16) 32 rfl Tryd.underlying29 (by kernel_rfl) w.heap.size 32 (by kernel_rfl))) sS3 ?_
 refine dV 2 18 (.slice (some ⟨g, off, none⟩) 104 c) rfl rfl (fun _ _ => by kernel_rfl) sS3 ?_
 refine dV 3 19 (.slice (some ⟨g, off + 32, none⟩) 32 32) rfl rfl (fun w' hw' => (Mur.run_cut3 22 (.tmp 18) (some (.const (.int .i64 32))) (.const (.int .i64 64)) (.const (.int .i64 64)) rfl 5 Tryd.underlying22 (by kernel_rfl) g off 104 c 32 64 64 32 (by kernel_rfl) (.inl (by kernel_rfl)) (by kernel_rfl) (by kernel_rfl) rfl rfl (by omega) (by omega))) sS3 ?_
 refine dOp 4 (by kernel_rfl) ?_
 have kk3 := Chg.step kk2 ch3 ⟨.inr (by omega), trivial⟩
 have kk4 := Chg.step kk3 ch4 trivial
 refine oEx (some 20) _ rfl rfl (by kernel_rfl) (Mur.copy_mid (.tmp 17) (.tmp 19) 22 22 rfl 5 Tryd.underlying22 (by kernel_rfl) w.heap.size 32 32 32 (by kernel_rfl) (some ⟨g, off + 32, none⟩) 32 32 (by kernel_rfl) 36 (Mur.attC K Mur.z32 0 Mur.z32) R (Chg.hp ch4 hb2 trivial) (Mur.byt_chg hb32 kk4 (fun g off e hl => trivial)) (by omega) (by omega) (by rw [Mur.attC_length hb0.1 rfl rfl]; omega) _ (Mur.att_sp32 hb0.1 rfl hb32.1)) ?_
 rintro _ W5 ⟨rfl, hb3, ch5⟩
 have zz5 := ch5.size
 have sS4 := Chg.step sS3 ch5 ⟨.inl (by simp), trivial⟩
 refine ⟨sS4, ?_⟩
 refine dEnd (by kernel_rfl) (nxt (wp_seq (reg ?_)))
 refine rP 0 4 (.int .u64 0) rfl rfl ?_
 refine rEnd 1 rfl (nxt (wp_seq (wp_seq (reg ?_))))
 refine rP 0 21 (.slice (some ⟨g, off, none⟩) 104 c) rfl rfl ?_
 refine rQ 1 22 (.slice (some ⟨g, off + 64, none⟩) 8 8) rfl rfl (Mur.run_cut3 22 (.tmp 21) (some (.const (.int .i64 64))) (.const (.int .i64 72)) (.const (.int .i64 72)) rfl 5 Tryd.underlying22 (by kernel_rfl) g off 104 c 64 72 72 8 (by kernel_rfl) (.inl (by kernel_rfl)) (by kernel_rfl) (by kernel_rfl) rfl rfl (by omega) (by omega)) ?_
 refine rP 2 23 (.int .i64 8) rfl rfl ?_
 refine rP 3 24 (.int .i64 0) rfl rfl ?_
 refine rEnd 4 rfl (nxt (wp_block ?_))
 refine Wk.loopN 9 ?_
 refine Wk.rdS (wp_seq (reg ?_))
 refine rQ 0 25 _ rfl rfl (qboolT (b := decide ((0 : Int) < (8 : Int))) (decide_eq_true (by decide))) ?_
 refine rEnd 1 rfl (nxt (wp_seq (wp_cond_true (by kernel_rfl) (wp_skip (nxt (wp_seq (wp_block (wp_seq (reg ?_)))))))))
 refine rQ 0 26 (pt g (off + 64 + 0 * 1)) rfl rfl (index_sl 22 5 (.tmp 22) (.tmp 24) rfl Tryd.underlying22 1 (by kernel_rfl) g (off + 64) 8 8 0 .i64 (by kernel_rfl) (by kernel_rfl) (by omega)) ?_
 have kk5 := Chg.step kk4 ch5 ⟨.inr (by omega), trivial⟩
 refine rQ 1 27 _ rfl rfl (ld 5 26 g (off + 64 + 0 * 1) (.int .u8 (((E.getD 0 0).toNat : Nat) : Int)) (Mur.byt_cell (Mur.byt_chg hb64 kk5 (fun g off e hl => trivial)) 0 (by omega))) ?_
 refine rP 2 6 (.int .u8 (((E.getD 0 0).toNat : Nat) : Int)) rfl rfl ?_
 refine rEnd 3 rfl (nxt (reg ?_))
 refine rP 0 28 (.int .u64 0) rfl rfl ?_
 refine rQ 1 29 (.int .u64 ((0 * 256 : Nat) : Int)) rfl rfl (Mur.shl8_64 24 139 (.tmp 28) (.const (.int .u64 8)) rfl 0 .u64 (by kernel_rfl) (by kernel_rfl) (by omega)) ?_
 refine rP 2 30 (.int .u8 (((E.getD 0 0).toNat : Nat) : Int)) rfl rfl ?_
 refine rQ 3 31 (.int .u64 (((E.getD 0 0).toNat : Nat) : Int)) rfl rfl (Mur.conv_int 5 24 (.tmp 30) rfl (by kernel_rfl) .u64 Tryd.underlying24 .u8 (((E.getD 0 0).toNat : Nat) : Int) (by kernel_rfl) (Mur.u64_nat (by omega))) ?_
 refine rQ 4 32 (.int .u64 ((0 * 256 + (E.getD 0 0).toNat : Nat) : Int)) rfl rfl (Mur.or64 24 24 (.tmp 29) (.tmp 31) rfl 0 (E.getD 0 0).toNat (by kernel_rfl) (by kernel_rfl) (by omega) (by omega)) ?_
 refine rP 5 4 (.int .u64 ((0 * 256 + (E.getD 0 0).toNat : Nat) : Int)) rfl rfl ?_
 refine rEnd 6 rfl (inN (nxt (reg ?_)))
 refine rQ 0 33 _ rfl rfl (qint64 (n := 0 + 1) (z := 1) (by omega) (by omega) (by omega)) ?_
 refine rP 1 24 (.int .i64 1) rfl rfl ?_
 refine rEnd 2 rfl (nxt (Wk.rdS (wp_seq (reg ?_))))
 refine rQ 0 25 _ rfl rfl (qboolT (b := decide ((1 : Int) < (8 : Int))) (decide_eq_true (by decide))) ?_
 refine rEnd 1 rfl (nxt (wp_seq (wp_cond_true (by kernel_rfl) (wp_skip (nxt (wp_seq (wp_block (wp_seq (reg ?_)))))))))
 refine rQ 0 26 (pt g (off + 64 + 1 * 1)) rfl rfl (index_sl 22 5 (.tmp 22) (.tmp 24) rfl Tryd.underlying22 1 (by kernel_rfl) g (off + 64) 8 8 1 .i64 (by kernel_rfl) (by kernel_rfl) (by omega)) ?_
 refine rQ 1 27 _ rfl rfl (ld 5 26 g (off + 64 + 1 * 1) (.int .u8 (((E.getD 1 0).toNat : Nat) : Int)) (Mur.byt_cell (Mur.byt_chg hb64 kk5 (fun g off e hl => trivial)) 1 (by omega))) ?_
 refine rP 2 6 (.int .u8 (((E.getD 1 0).toNat : Nat) : Int)) rfl rfl ?_
 refine rEnd 3 rfl (nxt (reg ?_))
 refine rP 0 28 (.int .u64 ((0 * 256 + (E.getD 0 0).toNat : Nat) : Int)) rfl rfl ?_
 refine rQ 1 29 (.int .u64 (((0 * 256 + (E.getD 0 0).toNat) * 256 : Nat) : Int)) rfl rfl (Mur.shl8_64 24 139 (.tmp 28) (.const (.int .u64 8)) rfl (0 * 256 + (E.getD 0 0).toNat) .u64 (by kernel_rfl) (by kernel_rfl) (by omega)) ?_
 refine rP 2 30 (.int .u8 (((E.getD 1 0).toNat : Nat) : Int)) rfl rfl ?_
 refine rQ 3 31 (.int .u64 (((E.getD 1 0).toNat : Nat) : Int)) rfl rfl (Mur.conv_int 5 24 (.tmp 30) rfl (by kernel_rfl) .u64 Tryd.underlying24 .u8 (((E.getD 1 0).toNat : Nat) : Int) (by kernel_rfl) (Mur.u64_nat (by omega))) ?_
 refine rQ 4 32 (.int .u64 (((0 * 256 + (E.getD 0 0).toNat) * 256 + (E.getD 1 0).toNat : Nat) : Int)) rfl rfl (Mur.or64 24 24 (.tmp 29) (.tmp 31) rfl (0 * 256 + (E.getD 0 0).toNat) (E.getD 1 0).toNat (by kernel_rfl) (by kernel_rfl) (by omega) (by omega)) ?_
 refine rP 5 4 (.int .u64 (((0 * 256 + (E.getD 0 0).toNat) * 256 + (E.getD 1 0).toNat : Nat) : Int)) rfl rfl ?_
 refine rEnd 6 rfl (inN (nxt (reg ?_)))
 refine rQ 0 33 _ rfl rfl (qint64 (n := 1 + 1) (z := 2) (by omega) (by omega) (by omega)) ?_
 refine rP 1 24 (.int .i64 2) rfl rfl ?_
 refine rEnd 2 rfl (nxt (Wk.rdS (wp_seq (reg ?_))))
 refine rQ 0 25 _ rfl rfl (qboolT (b := decide ((2 : Int) < (8 : Int))) (decide_eq_true (by decide))) ?_
 refine rEnd 1 rfl (nxt (wp_seq (wp_cond_true (by kernel_rfl) (wp_skip (nxt (wp_seq (wp_block (wp_seq (reg ?_)))))))))
 refine rQ 0 26 (pt g (off + 64 + 2 * 1)) rfl rfl (index_sl 22 5 (.tmp 22) (.tmp 24) rfl Tryd.underlying22 1 (by kernel_rfl) g (off + 64) 8 8 2 .i64 (by kernel_rfl) (by kernel_rfl) (by omega)) ?_
 refine rQ 1 27 _ rfl rfl (ld 5 26 g (off + 64 + 2 * 1) (.int .u8 (((E.getD 2 0).toNat : Nat) : Int)) (Mur.byt_cell (Mur.byt_chg hb64 kk5 (fun g off e hl => trivial)) 2 (by omega))) ?_
 refine rP 2 6 (.int .u8 (((E.getD 2 0).toNat : Nat) : Int)) rfl rfl ?_
 refine rEnd 3 rfl (nxt (reg ?_))
 refine rP 0 28 (.int .u64 (((0 * 256 + (E.getD 0 0).toNat) * 256 + (E.getD 1 0).toNat : Nat) : Int)) rfl rfl ?_
 refine rQ 1 29 (.int .u64 ((((0 * 256 + (E.getD 0 0).toNat) * 256 + (E.getD 1 0).toNat) * 256 : Nat) : Int)) rfl rfl (Mur.shl8_64 24 139 (.tmp 28) (.const (.int .u64 8)) rfl ((0 * 256 + (E.getD 0 0).toNat) * 256 + (E.getD 1 0).toNat) .u64 (by kernel_rfl) (by kernel_rfl) (by omega)) ?_
 refine rP 2 30 (.int .u8 (((E.getD 2 0).toNat : Nat) : Int)) rfl rfl ?_
 refine rQ 3 31 (.int .u64 (((E.getD 2 0).toNat : Nat) : Int)) rfl rfl (Mur.conv_int 5 24 (.tmp 30) rfl (by kernel_rfl) .u64 Tryd.underlying24 .u8 (((E.getD 2 0).toNat : Nat) : Int) (by kernel_rfl) (Mur.u64_nat (by omega))) ?_
 refine rQ 4 32 (.int .u64 ((((0 * 256 + (E.getD 0 0).toNat) * 256 + (E.getD 1 0).toNat) * 256 + (E.getD 2 0).toNat : Nat) : Int)) rfl rfl (Mur.or64 24 24 (.tmp 29) (.tmp 31) rfl ((0 * 256 + (E.getD 0 0).toNat) * 256 + (E.getD 1 0).toNat) (E.getD 2 0).toNat (by kernel_rfl) (by kernel_rfl) (by omega) (by omega)) ?_
 refine rP 5 4 (.int .u64 ((((0 * 256 + (E.getD 0 0).toNat) * 256 + (E.getD 1 0).toNat) * 256 + (E.getD 2 0).toNat : Nat) : Int)) rfl rfl ?_
 refine rEnd 6 rfl (inN (nxt (reg ?_)))
 refine rQ 0 33 _ rfl rfl (qint64 (n := 2 + 1) (z := 3) (by omega) (by omega) (by omega)) ?_
 refine rP 1 24 (.int .i64 3) rfl rfl ?_
 refine rEnd 2 rfl (nxt (Wk.rdS (wp_seq (reg ?_))))
 refine rQ 0 25 _ rfl rfl (qboolT (b := decide ((3 : Int) < (8 : Int))) (decide_eq_true (by decide))) ?_
 refine rEnd 1 rfl (nxt (wp_seq (wp_cond_true (by kernel_rfl) (wp_skip (nxt (wp_seq (wp_block (wp_seq (reg ?_)))))))))
 refine rQ 0 26 (pt g (off + 64 + 3 * 1)) rfl rfl (index_sl 22 5 (.tmp 22) (.tmp 24) rfl Tryd.underlying22 1 (by kernel_rfl) g (off + 64) 8 8 3 .i64 (by kernel_rfl) (by kernel_rfl) (by omega)) ?_
 refine rQ 1 27 _ rfl rfl (ld 5 26 g (off + 64 + 3 * 1) (.int .u8 (((E.getD 3 0).toNat : Nat) : Int)) (Mur.byt_cell (Mur.byt_chg hb64 kk5 (fun g off e hl => trivial)) 3 (by omega))) ?_
 refine rP 2 6 (.int .u8 (((E.getD 3 0).toNat : Nat) : Int)) rfl rfl ?_
 refine rEnd 3 rfl (nxt (reg ?_))
 refine rP 0 28 (.int .u64 ((((0 * 256 + (E.getD 0 0).toNat) * 256 + (E.getD 1 0).toNat) * 256 + (E.getD 2 0).toNat : Nat) : Int)) rfl rfl ?_
 refine rQ 1 29 (.int .u64 (((((0 * 256 + (E.getD 0 0).toNat) * 256 + (E.getD 1 0).toNat) * 256 + (E.getD 2 0).toNat) * 256 : Nat) : Int)) rfl rfl (Mur.shl8_64 24 139 (.tmp 28) (.const (.int .u64 8)) rfl (((0 * 256 + (E.getD 0 0).toNat) * 256 + (E.getD 1 0).toNat) * 256 + (E.getD 2 0).toNat) .u64 (by kernel_rfl) (by kernel_rfl) (by omega)) ?_
 refine rP 2 30 (.int .u8 (((E.getD 3 0).toNat : Nat) : Int)) rfl rfl ?_
 refine rQ 3 31 (.int .u64 (((E.getD 3 0).toNat : Nat) : Int)) rfl rfl (Mur.conv_int 5 24 (.tmp 30) rfl (by kernel_rfl) .u64 Tryd.underlying24 .u8 (((E.getD 3 0).toNat : Nat) : Int) (by kernel_rfl) (Mur.u64_nat (by omega))) ?_
 refine rQ 4 32 (.int .u64 (((((0 * 256 + (E.getD 0 0).toNat) * 256 + (E.getD 1 0).toNat) * 256 + (E.getD 2 0).toNat) * 256 + (E.getD 3 0).toNat : Nat) : Int)) rfl rfl (Mur.or64 24 24 (.tmp 29) (.tmp 31) rfl (((0 * 256 + (E.getD 0 0).toNat) * 256 + (E.getD 1 0).toNat) * 256 + (E.getD 2 0).toNat) (E.getD 3 0).toNat (by kernel_rfl) (by kernel_rfl) (by omega) (by omega)) ?_
 refine rP 5 4 (.int .u64 (((((0 * 256 + (E.getD 0 0).toNat) * 256 + (E.getD 1 0).toNat) * 256 + (E.getD 2 0).toNat) * 256 + (E.getD 3 0).toNat : Nat) : Int)) rfl rfl ?_
 refine rEnd 6 rfl (inN (nxt (reg ?_)))
 refine rQ 0 33 _ rfl rfl (qint64 (n := 3 + 1) (z := 4) (by omega) (by omega) (by omega)) ?_
 refine rP 1 24 (.int .i64 4) rfl rfl ?_
 refine rEnd 2 rfl (nxt (Wk.rdS (wp_seq (reg ?_))))
 refine rQ 0 25 _ rfl rfl (qboolT (b := decide ((4 : Int) < (8 : Int))) (decide_eq_true (by decide))) ?_
 refine rEnd 1 rfl (nxt (wp_seq (wp_cond_true (by kernel_rfl) (wp_skip (nxt (wp_seq (wp_block (wp_seq (reg ?_)))))))))
 refine rQ 0 26 (pt g (off + 64 + 4 * 1)) rfl rfl (index_sl 22 5 (.tmp 22) (.tmp 24) rfl Tryd.underlying22 1 (by kernel_rfl) g (off + 64) 8 8 4 .i64 (by kernel_rfl) (by kernel_rfl) (by omega)) ?_
 refine rQ 1 27 _ rfl rfl (ld 5 26 g (off + 64 + 4 * 1) (.int .u8 (((E.getD 4 0).toNat : Nat) : Int)) (Mur.byt_cell (Mur.byt_chg hb64 kk5 (fun g off e hl => trivial)) 4 (by omega))) ?_
 refine rP 2 6 (.int .u8 (((E.getD 4 0).toNat : Nat) : Int)) rfl rfl ?_
 refine rEnd 3 rfl (nxt (reg ?_))
 refine rP 0 28 (.int .u64 (((((0 * 256 + (E.getD 0 0).toNat) * 256 + (E.getD 1 0).toNat) * 256 + (E.getD 2 0).toNat) * 256 + (E.getD 3 0).toNat : Nat) : Int)) rfl rfl ?_
 refine rQ 1 29 (.int .u64 ((((((0 * 256 + (E.getD 0 0).toNat) * 256 + (E.getD 1 0).toNat) * 256 + (E.getD 2 0).toNat) * 256 + (E.getD 3 0).toNat) * 256 : Nat) : Int)) rfl rfl (Mur.shl8_64 24 139 (.tmp 28) (.const (.int .u64 8)) rfl ((((0 * 256 + (E.getD 0 0).toNat) * 256 + (E.getD 1 0).toNat) * 256 + (E.getD 2 0).toNat) * 256 + (E.getD 3 0).toNat) .u64 (by kernel_rfl) (by kernel_rfl) (by omega)) ?_
 refine rP 2 30 (.int .u8 (((E.getD 4 0).toNat : Nat) : Int)) rfl rfl ?_
 refine rQ 3 31 (.int .u64 (((E.getD 4 0).toNat : Nat) : Int)) rfl rfl (Mur.conv_int 5 24 (.tmp 30) rfl (by kernel_rfl) .u64 Tryd.underlying24 .u8 (((E.getD 4 0).toNat : Nat) : Int) (by kernel_rfl) (Mur.u64_nat (by omega))) ?_
 refine rQ 4 32 (.int .u64 ((((((0 * 256 + (E.getD 0 0).toNat) * 256 + (E.getD 1 0).toNat) * 256 + (E.getD 2 0).toNat) * 256 + (E.getD 3 0).toNat) * 256 + (E.getD 4 0).toNat : Nat) : Int)) rfl rfl (Mur.or64 24 24 (.tmp 29) (.tmp 31) rfl ((((0 * 256 + (E.getD 0 0).toNat) * 256 + (E.getD 1 0).toNat) * 256 + (E.getD 2 0).toNat) * 256 + (E.getD 3 0).toNat) (E.getD 4 0).toNat (by kernel_rfl) (by kernel_rfl) (by omega) (by omega)) ?_
 refine rP 5 4 (.int .u64 ((((((0 * 256 + (E.getD 0 0).toNat) * 256 + (E.getD 1 0).toNat) * 256 + (E.getD 2 0).toNat) * 256 + (E.getD 3 0).toNat) * 256 + (E.getD 4 0).toNat : Nat) : Int)) rfl rfl ?_
 refine rEnd 6 rfl (inN (nxt (reg ?_)))
 refine rQ 0 33 _ rfl rfl (qint64 (n := 4 + 1) (z := 5) (by omega) (by omega) (by omega)) ?_
 refine rP 1 24 (.int .i64 5) rfl rfl ?_
 refine rEnd 2 rfl (nxt (Wk.rdS (wp_seq (reg ?_))))
 refine rQ 0 25 _ rfl rfl (qboolT (b := decide ((5 : Int) < (8 : Int))) (decide_eq_true (by decide))) ?_
 refine rEnd 1 rfl (nxt (wp_seq (wp_cond_true (by kernel_rfl) (wp_skip (nxt (wp_seq (wp_block (wp_seq (reg ?_)))))))))
 refine rQ 0 26 (pt g (off + 64 + 5 * 1)) rfl rfl (index_sl 22 5 (.tmp 22) (.tmp 24) rfl Tryd.underlying22 1 (by kernel_rfl) g (off + 64) 8 8 5 .i64 (by kernel_rfl) (by kernel_rfl) (by omega)) ?_
 refine rQ 1 27 _ rfl rfl (ld 5 26 g (off + 64 + 5 * 1) (.int .u8 (((E.getD 5 0).toNat : Nat) : Int)) (Mur.byt_cell (Mur.byt_chg hb64 kk5 (fun g off e hl => trivial)) 5 (by omega))) ?_
 refine rP 2 6 (.int .u8 (((E.getD 5 0).toNat : Nat) : Int)) rfl rfl ?_
 refine rEnd 3 rfl (nxt (reg ?_))
 refine rP 0 28 (.int .u64 ((((((0 * 256 + (E.getD 0 0).toNat) * 256 + (E.getD 1 0).toNat) * 256 + (E.getD 2 0).toNat) * 256 + (E.getD 3 0).toNat) * 256 + (E.getD 4 0).toNat : Nat) : Int)) rfl rfl ?_
 refine rQ 1 29 (.int .u64 (((((((0 * 256 + (E.getD 0 0).toNat) * 256 + (E.getD 1 0).toNat) * 256 + (E.getD 2 0).toNat) * 256 + (E.getD 3 0).toNat) * 256 + (E.getD 4 0).toNat) * 256 : Nat) : Int)) rfl rfl (Mur.shl8_64 24 139 (.tmp 28) (.const (.int .u64 8)) rfl (((((0 * 256 + (E.getD 0 0).toNat) * 256 + (E.getD 1 0).toNat) * 256 + (E.getD 2 0).toNat) * 256 + (E.getD 3 0).toNat) * 256 + (E.getD 4 0).toNat) .u64 (by kernel_rfl) (by kernel_rfl) (by omega)) ?_
 refine rP 2 30 (.int .u8 (((E.getD 5 0).toNat : Nat) : Int)) rfl rfl ?_
 refine rQ 3 31 (.int .u64 (((E.getD 5 0).toNat : Nat) : Int)) rfl rfl (Mur.conv_int 5 24 (.tmp 30) rfl (by kernel_rfl) .u64 Tryd.underlying24 .u8 (((E.getD 5 0).toNat : Nat) : Int) (by kernel_rfl) (Mur.u64_nat (by omega))) ?_
 refine rQ 4 32 (.int .u64 (((((((0 * 256 + (E.getD 0 0).toNat) * 256 + (E.getD 1 0).toNat) * 256 + (E.getD 2 0).toNat) * 256 + (E.getD 3 0).toNat) * 256 + (E.getD 4 0).toNat) * 256 + (E.getD 5 0).toNat : Nat) : Int)) rfl rfl (Mur.or64 24 24 (.tmp 29) (.tmp 31) rfl (((((0 * 256 + (E.getD 0 0).toNat) * 256 + (E.getD 1 0).toNat) * 256 + (E.getD 2 0).toNat) * 256 + (E.getD 3 0).toNat) * 256 + (E.getD 4 0).toNat) (E.getD 5 0).toNat (by kernel_rfl) (by kernel_rfl) (by omega) (by omega)) ?_
 refine rP 5 4 (.int .u64 (((((((0 * 256 + (E.getD 0 0).toNat) * 256 + (E.getD 1 0).toNat) * 256 + (E.getD 2 0).toNat) * 256 + (E.getD 3 0).toNat) * 256 + (E.getD 4 0).toNat) * 256 + (E.getD 5 0).toNat : Nat) : Int)) rfl rfl ?_
 refine rEnd 6 rfl (inN (nxt (reg ?_)))
 refine rQ 0 33 _ rfl rfl (qint64 (n := 5 + 1) (z := 6) (by omega) (by omega) (by omega)) ?_
 refine rP 1 24 (.int .i64 6) rfl rfl ?_
 refine rEnd 2 rfl (nxt (Wk.rdS (wp_seq (reg ?_))))
 refine rQ 0 25 _ rfl rfl (qboolT (b := decide ((6 : Int) < (8 : Int))) (decide_eq_true (by decide))) ?_
 refine rEnd 1 rfl (nxt (wp_seq (wp_cond_true (by kernel_rfl) (wp_skip (nxt (wp_seq (wp_block (wp_seq (reg ?_)))))))))
 refine rQ 0 26 (pt g (off + 64 + 6 * 1)) rfl rfl (index_sl 22 5 (.tmp 22) (.tmp 24) rfl Tryd.underlying22 1 (by kernel_rfl) g (off + 64) 8 8 6 .i64 (by kernel_rfl) (by kernel_rfl) (by omega)) ?_
 refine rQ 1 27 _ rfl rfl (ld 5 26 g (off + 64 + 6 * 1) (.int .u8 (((E.getD 6 0).toNat : Nat) : Int)) (Mur.byt_cell (Mur.byt_chg hb64 kk5 (fun g off e hl => trivial)) 6 (by omega))) ?_
 refine rP 2 6 (.int .u8 (((E.getD 6 0).toNat : Nat) : Int)) rfl rfl ?_
 refine rEnd 3 rfl (nxt (reg ?_))
 refine rP 0 28 (.int .u64 (((((((0 * 256 + (E.getD 0 0).toNat) * 256 + (E.getD 1 0).toNat) * 256 + (E.getD 2 0).toNat) * 256 + (E.getD 3 0).toNat) * 256 + (E.getD 4 0).toNat) * 256 + (E.getD 5 0).toNat : Nat) : Int)) rfl rfl ?_
 refine rQ 1 29 (.int .u64 ((((((((0 * 256 + (E.getD 0 0).toNat) * 256 + (E.getD 1 0).toNat) * 256 + (E.getD 2 0).toNat) * 256 + (E.getD 3 0).toNat) * 256 + (E.getD 4 0).toNat) * 256 + (E.getD 5 0).toNat) * 256 : Nat) : Int)) rfl rfl (Mur.shl8_64 24 139 (.tmp 28) (.const (.int .u64 8)) rfl ((((((0 * 256 + (E.getD 0 0).toNat) * 256 + (E.getD 1 0).toNat) * 256 + (E.getD 2 0).toNat) * 256 + (E.getD 3 0).toNat) * 256 + (E.getD 4 0).toNat) * 256 + (E.getD 5 0).toNat) .u64 (by kernel_rfl) (by kernel_rfl) (by omega)) ?_
 refine rP 2 30 (.int .u8 (((E.getD 6 0).toNat : Nat) : Int)) rfl rfl ?_
 refine rQ 3 31 (.int .u64 (((E.getD 6 0).toNat : Nat) : Int)) rfl rfl (Mur.conv_int 5 24 (.tmp 30) rfl (by kernel_rfl) .u64 Tryd.underlying24 .u8 (((E.getD 6 0).toNat : Nat) : Int) (by kernel_rfl) (Mur.u64_nat (by omega))) ?_
 refine rQ 4 32 (.int .u64 ((((((((0 * 256 + (E.getD 0 0).toNat) * 256 + (E.getD 1 0).toNat) * 256 + (E.getD 2 0).toNat) * 256 + (E.getD 3 0).toNat) * 256 + (E.getD 4 0).toNat) * 256 + (E.getD 5 0).toNat) * 256 + (E.getD 6 0).toNat : Nat) : Int)) rfl rfl (Mur.or64 24 24 (.tmp 29) (.tmp 31) rfl ((((((0 * 256 + (E.getD 0 0).toNat) * 256 + (E.getD 1 0).toNat) * 256 + (E.getD 2 0).toNat) * 256 + (E.getD 3 0).toNat) * 256 + (E.getD 4 0).toNat) * 256 + (E.getD 5 0).toNat) (E.getD 6 0).toNat (by kernel_rfl) (by kernel_rfl) (by omega) (by omega)) ?_
 refine rP 5 4 (.int .u64 ((((((((0 * 256 + (E.getD 0 0).toNat) * 256 + (E.getD 1 0).toNat) * 256 + (E.getD 2 0).toNat) * 256 + (E.getD 3 0).toNat) * 256 + (E.getD 4 0).toNat) * 256 + (E.getD 5 0).toNat) * 256 + (E.getD 6 0).toNat : Nat) : Int)) rfl rfl ?_
 refine rEnd 6 rfl (inN (nxt (reg ?_)))
 refine rQ 0 33 _ rfl rfl (qint64 (n := 6 + 1) (z := 7) (by omega) (by omega) (by omega)) ?_
 refine rP 1 24 (.int .i64 7) rfl rfl ?_
 refine rEnd 2 rfl (nxt (Wk.rdS (wp_seq (reg ?_))))
 refine rQ 0 25 _ rfl rfl (qboolT (b := decide ((7 : Int) < (8 : Int))) (decide_eq_true (by decide))) ?_
 refine rEnd 1 rfl (nxt (wp_seq (wp_cond_true (by kernel_rfl) (wp_skip (nxt (wp_seq (wp_block (wp_seq (reg ?_)))))))))
 refine rQ 0 26 (pt g (off + 64 + 7 * 1)) rfl rfl (index_sl 22 5 (.tmp 22) (.tmp 24) rfl Tryd.underlying22 1 (by kernel_rfl) g (off + 64) 8 8 7 .i64 (by kernel_rfl) (by kernel_rfl) (by omega)) ?_
 refine rQ 1 27 _ rfl rfl (ld 5 26 g (off + 64 + 7 * 1) (.int .u8 (((E.getD 7 0).toNat : Nat) : Int)) (Mur.byt_cell (Mur.byt_chg hb64 kk5 (fun g off e hl => trivial)) 7 (by omega))) ?_
 refine rP 2 6 (.int .u8 (((E.getD 7 0).toNat : Nat) : Int)) rfl rfl ?_
 refine rEnd 3 rfl (nxt (reg ?_))
 refine rP 0 28 (.int .u64 ((((((((0 * 256 + (E.getD 0 0).toNat) * 256 + (E.getD 1 0).toNat) * 256 + (E.getD 2 0).toNat) * 256 + (E.getD 3 0).toNat) * 256 + (E.getD 4 0).toNat) * 256 + (E.getD 5 0).toNat) * 256 + (E.getD 6 0).toNat : Nat) : Int)) rfl rfl ?_
 refine rQ 1 29 (.int .u64 (((((((((0 * 256 + (E.getD 0 0).toNat) * 256 + (E.getD 1 0).toNat) * 256 + (E.getD 2 0).toNat) * 256 + (E.getD 3 0).toNat) * 256 + (E.getD 4 0).toNat) * 256 + (E.getD 5 0).toNat) * 256 + (E.getD 6 0).toNat) * 256 : Nat) : Int)) rfl rfl (Mur.shl8_64 24 139 (.tmp 28) (.const (.int .u64 8)) rfl (((((((0 * 256 + (E.getD 0 0).toNat) * 256 + (E.getD 1 0).toNat) * 256 + (E.getD 2 0).toNat) * 256 + (E.getD 3 0).toNat) * 256 + (E.getD 4 0).toNat) * 256 + (E.getD 5 0).toNat) * 256 + (E.getD 6 0).toNat) .u64 (by kernel_rfl) (by kernel_rfl) (by omega)) ?_
 refine rP 2 30 (.int .u8 (((E.getD 7 0).toNat : Nat) : Int)) rfl rfl ?_
 refine rQ 3 31 (.int .u64 (((E.getD 7 0).toNat : Nat) : Int)) rfl rfl (Mur.conv_int 5 24 (.tmp 30) rfl (by kernel_rfl) .u64 Tryd.underlying24 .u8 (((E.getD 7 0).toNat : Nat) : Int) (by kernel_rfl) (Mur.u64_nat (by omega))) ?_
 refine rQ 4 32 (.int .u64 (((((((((0 * 256 + (E.getD 0 0).toNat) * 256 + (E.getD 1 0).toNat) * 256 + (E.getD 2 0).toNat) * 256 + (E.getD 3 0).toNat) * 256 + (E.getD 4 0).toNat) * 256 + (E.getD 5 0).toNat) * 256 + (E.getD 6 0).toNat) * 256 + (E.getD 7 0).toNat : Nat) : Int)) rfl rfl (Mur.or64 24 24 (.tmp 29) (.tmp 31) rfl (((((((0 * 256 + (E.getD 0 0).toNat) * 256 + (E.getD 1 0).toNat) * 256 + (E.getD 2 0).toNat) * 256 + (E.getD 3 0).toNat) * 256 + (E.getD 4 0).toNat) * 256 + (E.getD 5 0).toNat) * 256 + (E.getD 6 0).toNat) (E.getD 7 0).toNat (by kernel_rfl) (by kernel_rfl) (by omega) (by omega)) ?_
 refine rP 5 4 (.int .u64 (((((((((0 * 256 + (E.getD 0 0).toNat) * 256 + (E.getD 1 0).toNat) * 256 + (E.getD 2 0).toNat) * 256 + (E.getD 3 0).toNat) * 256 + (E.getD 4 0).toNat) * 256 + (E.getD 5 0).toNat) * 256 + (E.getD 6 0).toNat) * 256 + (E.getD 7 0).toNat : Nat) : Int)) rfl rfl ?_
 refine rEnd 6 rfl (inN (nxt (reg ?_)))
 refine rQ 0 33 _ rfl rfl (qint64 (n := 7 + 1) (z := 8) (by omega) (by omega) (by omega)) ?_
 refine rP 1 24 (.int .i64 8) rfl rfl ?_
 refine rEnd 2 rfl (nxt (Wk.rdS (wp_seq (reg ?_))))
 refine rQ 0 25 _ rfl rfl (qboolF (b := decide ((8 : Int) < (8 : Int))) (decide_eq_false (by decide))) ?_
 refine rEnd 1 rfl (nxt (wp_seq (wp_cond_false (by kernel_rfl) (wp_exit (thX (thX (inX (nxt (wp_seq (wp_seq (reg ?_)))))))))))
 refine rQ 0 34 (.int .u64 ((V : Nat) : Int)) rfl rfl (Wk.val (v := .int .u64 (((((((((0 * 256 + (E.getD 0 0).toNat) * 256 + (E.getD 1 0).toNat) * 256 + (E.getD 2 0).toNat) * 256 + (E.getD 3 0).toNat) * 256 + (E.getD 4 0).toNat) * 256 + (E.getD 5 0).toNat) * 256 + (E.getD 6 0).toNat) * 256 + (E.getD 7 0).toNat : Nat) : Int)) (congrArg (fun z : Nat => Value.int .u64 (z : Int)) hV) (by kernel_rfl)) ?_
 by_cases hx1 : ((V : Nat) : Int) < (1 : Int)
 ·refine rQ 1 35 _ rfl rfl (qboolT (b := decide (((V : Nat) : Int) < (1 : Int))) (decide_eq_true (by first | exact hx1 | omega))) ?_
  refine rP 2 36 (.bool true) rfl rfl ?_
  refine rPass 3 (some 37) rfl rfl (by kernel_rfl) ?_
  refine rPass 4 (some 38) rfl rfl (by kernel_rfl) ?_
  refine rP 5 39 (.bool true) rfl rfl ?_
  refine rEnd 6 rfl (nxt (wp_cond_true (by kernel_rfl) (wp_seq (reg ?_))))
  refine rP 0 40 (.agg ((Mur.attC Mur.z32 Mur.z32 0 Mur.z32).toArray)) rfl rfl ?_
  refine rY 1 rfl rfl (Mur.storeArr 36 (.tmp 2) (.tmp 40) rfl w.heap.size (by kernel_rfl) (Mur.attC Mur.z32 Mur.z32 0 Mur.z32).toArray 97 (Mur.attC_size rfl rfl rfl) Mur.attC_all (by kernel_rfl) (by kernel_rfl) 36 ((Mur.attC K R 0 Mur.z32).toArray) hb3 (Mur.attC_size hb0.1 hb32.1 rfl)) ?_
  rintro W6 ⟨hb4, ch6⟩
  have zz6 := ch6.size
  refine rP 2 3 (.int .i64 5) rfl rfl ?_
  refine rEnd 3 rfl (nxt (wp_ret (thR ?_)))
  have kk6 := Chg.step kk5 ch6 ⟨.inr (by omega), trivial⟩
  refine Wk.ret (.tuple #[.agg (Mur.attC Mur.z32 Mur.z32 0 Mur.z32).toArray, .int .i64 5]) rfl (results_att rfl _ _ w.heap.size (Mur.attC Mur.z32 Mur.z32 0 Mur.z32).toArray (0, 0) (.int .i64 5) (by kernel_rfl) hb4 (Mur.attC_size rfl rfl rfl) (by kernel_rfl)) ?_
  exact ⟨rfl, kk6⟩
 refine rQ 1 35 _ rfl rfl (qboolF (b := decide (((V : Nat) : Int) < (1 : Int))) (decide_eq_false (by first | exact hx1 | omega))) ?_
 refine rP 2 36 (.bool false) rfl rfl ?_
 refine rQ 3 37 (.int .u64 ((V : Nat) : Int)) rfl rfl (Wk.val (v := .int .u64 (((((((((0 * 256 + (E.getD 0 0).toNat) * 256 + (E.getD 1 0).toNat) * 256 + (E.getD 2 0).toNat) * 256 + (E.getD 3 0).toNat) * 256 + (E.getD 4 0).toNat) * 256 + (E.getD 5 0).toNat) * 256 + (E.getD 6 0).toNat) * 256 + (E.getD 7 0).toNat : Nat) : Int)) (congrArg (fun z : Nat => Value.int .u64 (z : Int)) hV) (by kernel_rfl)) ?_
 by_cases hx2 : ((V : Nat) : Int) > (5000 : Int)
 ·refine rQ 4 38 _ rfl rfl (qboolT (b := decide (((V : Nat) : Int) > (5000 : Int))) (decide_eq_true (by first | exact hx2 | omega))) ?_
  refine rP 5 39 (.bool true) rfl rfl ?_
  refine rEnd 6 rfl (nxt (wp_cond_true (by kernel_rfl) (wp_seq (reg ?_))))
  refine rP 0 40 (.agg ((Mur.attC Mur.z32 Mur.z32 0 Mur.z32).toArray)) rfl rfl ?_
  refine rY 1 rfl rfl (Mur.storeArr 36 (.tmp 2) (.tmp 40) rfl w.heap.size (by kernel_rfl) (Mur.attC Mur.z32 Mur.z32 0 Mur.z32).toArray 97 (Mur.attC_size rfl rfl rfl) Mur.attC_all (by kernel_rfl) (by kernel_rfl) 36 ((Mur.attC K R 0 Mur.z32).toArray) hb3 (Mur.attC_size hb0.1 hb32.1 rfl)) ?_
  rintro W7 ⟨hb5, ch7⟩
  have zz7 := ch7.size
  refine rP 2 3 (.int .i64 5) rfl rfl ?_
  refine rEnd 3 rfl (nxt (wp_ret (thR ?_)))
  have kk7 := Chg.step kk5 ch7 ⟨.inr (by omega), trivial⟩
  refine Wk.ret (.tuple #[.agg (Mur.attC Mur.z32 Mur.z32 0 Mur.z32).toArray, .int .i64 5]) rfl (results_att rfl _ _ w.heap.size (Mur.attC Mur.z32 Mur.z32 0 Mur.z32).toArray (0, 0) (.int .i64 5) (by kernel_rfl) hb5 (Mur.attC_size rfl rfl rfl) (by kernel_rfl)) ?_
  exact ⟨rfl, kk7⟩
 refine rQ 4 38 _ rfl rfl (qboolF (b := decide (((V : Nat) : Int) > (5000 : Int))) (decide_eq_false (by first | exact hx2 | omega))) ?_
 refine rP 5 39 (.bool false) rfl rfl ?_
 refine rEnd 6 rfl (nxt (wp_cond_false (by kernel_rfl) (wp_skip (nxt (wp_seq (reg ?_))))))
 refine rQ 0 41 (.int .u64 ((V : Nat) : Int)) rfl rfl (Wk.val (v := .int .u64 (((((((((0 * 256 + (E.getD 0 0).toNat) * 256 + (E.getD 1 0).toNat) * 256 + (E.getD 2 0).toNat) * 256 + (E.getD 3 0).toNat) * 256 + (E.getD 4 0).toNat) * 256 + (E.getD 5 0).toNat) * 256 + (E.getD 6 0).toNat) * 256 + (E.getD 7 0).toNat : Nat) : Int)) (congrArg (fun z : Nat => Value.int .u64 (z : Int)) hV) (by kernel_rfl)) ?_
 refine rQ 1 42 (.int .i64 ((V : Nat) : Int)) rfl rfl (Mur.conv_int 24 3 (.tmp 41) rfl (by kernel_rfl) .i64 Tryd.underlying3 .u64 ((V : Nat) : Int) (by kernel_rfl) (Mur.i64_nat (by omega))) ?_
 refine rP 2 43 (pt w.heap.size 64) rfl rfl ?_
 refine rY 3 rfl rfl (Mur.store_len 3 (.tmp 43) (.tmp 42) rfl (by kernel_rfl) w.heap.size (by kernel_rfl) ((V : Nat) : Int) (by kernel_rfl) 36 K R Mur.z32 0 hb0.1 hb32.1 rfl hb3) ?_
 rintro W8 ⟨hb6, ch8⟩
 have zz8 := ch8.size
 refine rEnd 4 rfl (nxt (wp_seq ?_))
 refine dReg ([w.heap.size]) (by kernel_rfl) ?_
 intro W9 ch9 sz4
 have zz9 := ch9.size
 have sS5 : Chg ([w.heap.size]) W9 W9 := (Chg.refl _).more (by simp)
 refine dV 0 44 (pt w.heap.size 65) rfl rfl (fun _ _ => by kernel_rfl) sS5 ?_
 refine dV 1 45 (.slice (some ⟨w.heap.size, 65, none⟩) 32 32) rfl rfl (fun w' hw' => (Mur.arr_slice_at 29 5 (.tmp 44) 32 rfl Tryd.underlying29 (by kernel_rfl) w.heap.size 65 (by kernel_rfl))) sS5 ?_
 refine dV 2 46 (.slice (some ⟨g, off, none⟩) 104 c) rfl rfl (fun _ _ => by kernel_rfl) sS5 ?_
 refine dV 3 47 (.slice (some ⟨g, off + 72, none⟩) 32 (c - 72)) rfl rfl (fun w' hw' => (Mur.run_from_at 22 (.tmp 46) (.const (.int .i64 72)) rfl 5 Tryd.underlying22 (by kernel_rfl) g off 104 c 72 32 (by kernel_rfl) (by kernel_rfl) (by omega) (by omega) rfl)) sS5 ?_
 refine dOp 4 (by kernel_rfl) ?_
 have kk8 := Chg.step kk5 ch8 ⟨.inr (by omega), trivial⟩
 have kk9 := Chg.step kk8 ch9 trivial
 refine oEx (some 48) _ rfl rfl (by kernel_rfl) (Mur.copy_mid (.tmp 45) (.tmp 47) 22 22 rfl 5 Tryd.underlying22 (by kernel_rfl) w.heap.size 65 32 32 (by kernel_rfl) (some ⟨g, off + 72, none⟩) 32 (c - 72) (by kernel_rfl) 36 (Mur.attC K R ((V : Nat) : Int) Mur.z32) T (Chg.hp ch9 hb6 trivial) (Mur.byt_chg hb72 kk9 (fun g off e hl => trivial)) (by omega) (by omega) (by rw [Mur.attC_length hb0.1 hb32.1 rfl]; omega) _ (Mur.att_sp65 hb0.1 hb32.1 rfl hb72.1)) ?_
 rintro _ W10 ⟨rfl, hb7, ch10⟩
 have zz10 := ch10.size
 have sS6 := Chg.step sS5 ch10 ⟨.inl (by simp), trivial⟩
 refine ⟨sS6, ?_⟩
 refine dEnd (by kernel_rfl) (nxt (wp_seq (reg ?_)))
 refine rQ 0 49 (.agg ((Mur.attC K R ((V : Nat) : Int) T).toArray)) rfl rfl (Mur.loadArr 36 (.tmp 2) rfl _ Tryd.underlying36 rfl w.heap.size (by kernel_rfl) (Mur.attC K R ((V : Nat) : Int) T).toArray 97 (Mur.attC_size hb0.1 hb32.1 hb72.1) (by kernel_rfl) 36 (0, 0) hb7) ?_
 refine rY 1 rfl rfl (Mur.storeArr 36 (.tmp 2) (.tmp 49) rfl w.heap.size (by kernel_rfl) (Mur.attC K R ((V : Nat) : Int) T).toArray 97 (Mur.attC_size hb0.1 hb32.1 hb72.1) Mur.attC_all (by kernel_rfl) (by kernel_rfl) 36 ((Mur.attC K R ((V : Nat) : Int) T).toArray) hb7 (Mur.attC_size hb0.1 hb32.1 hb72.1)) ?_
 rintro W11 ⟨hb8, ch11⟩
 have zz11 := ch11.size
 refine rP 2 3 (.int .i64 0) rfl rfl ?_
 refine rEnd 3 rfl (nxt (wp_ret ?_))
 exfalso; omega
theorem Read_ok (g off c : Nat) (b K R E T : List UInt8) (V : Nat) (w : World) (hb : Byt w (some ⟨g, off, none⟩) 104 b) (hc : 104 ≤ c) (hK : (b.take 32).drop 0 = K) (hR : (b.take 64).drop 32 = R) (hE : (b.take 72).drop 64 = E) (hT : (b.take 104).drop 72 = T) (hV : Mur.be8 E = V) (hm : 1 ≤ V ∧ V ≤ 5000) : Calls Tryd.prog 68 #[.slice (some ⟨g, off, none⟩) 104 c] w fun e w' => e = .returned (.tuple #[.agg (attC K R ((V : Nat) : Int) T).toArray, .int .i64 0]) ∧ Chg [] w w' := by
 have hb0 : Byt w (some ⟨g, off + 0, none⟩) 32 K := by have := Mur.byt_sub hb 0 32 32 rfl (by omega); rw [hK] at this; exact this
 have hb32 : Byt w (some ⟨g, off + 32, none⟩) 32 R := by have := Mur.byt_sub hb 32 64 32 rfl (by omega); rw [hR] at this; exact this
 have hb64 : Byt w (some ⟨g, off + 64, none⟩) 8 E := by have := Mur.byt_sub hb 64 72 8 rfl (by omega); rw [hE] at this; exact this
 have hb72 : Byt w (some ⟨g, off + 72, none⟩) 32 T := by have := Mur.byt_sub hb 72 104 32 rfl (by omega); rw [hT] at this; exact this
 have hx0_ := (E.getD 0 0).toNat_lt
 have hx1_ := (E.getD 1 0).toNat_lt
 have hx2_ := (E.getD 2 0).toNat_lt
 have hx3_ := (E.getD 3 0).toNat_lt
 have hx4_ := (E.getD 4 0).toNat_lt
 have hx5_ := (E.getD 5 0).toNat_lt
 have hx6_ := (E.getD 6 0).toNat_lt
 have hx7_ := (E.getD 7 0).toNat_lt
 refine calls_of_wp Tryd.func68 rfl ?_
 refine wp_seq (reg ?_)
 refine rX 0 2 rfl rfl (new_ex (pt w.heap.size 0) (Mur.attC Mur.z32 Mur.z32 0 Mur.z32).toArray 36 (by kernel_rfl)) ?_
 rintro _ W1 ⟨rfl, hb1, ch1, sz1⟩
 have zz1 := ch1.size
 refine rP 1 3 (.int .i64 0) rfl rfl ?_
 refine rEnd 2 rfl (nxt (wp_seq (wp_seq (reg ?_))))
 refine rP 0 7 (.slice (some ⟨g, off, none⟩) 104 c) rfl rfl ?_
 refine rP 1 8 (.int .i64 104) rfl rfl ?_
 refine rQ 2 9 _ rfl rfl (qboolF (b := ((104 : Int) != (104 : Int))) (bne_eq_false_iff_eq.2 (by decide))) ?_
 refine rEnd 3 rfl (nxt (wp_cond_false (by kernel_rfl) (wp_skip (nxt (wp_seq ?_)))))
 refine dReg ([w.heap.size]) (by kernel_rfl) ?_
 intro W2 ch2 sz2
 have zz2 := ch2.size
 have sS1 : Chg ([w.heap.size]) W2 W2 := (Chg.refl _).more (by simp)
 refine dV 0 11 (pt w.heap.size 0) rfl rfl (fun _ _ => by kernel_rfl) sS1 ?_
 refine dV 1 12 (.slice (some ⟨w.heap.size, 0, none⟩) 32 32) rfl rfl (fun w' hw' => (Mur.arr_slice 29 5 (.tmp 11) 32 rfl Tryd.underlying29 (by kernel_rfl) w.heap.size (by kernel_rfl))) sS1 ?_
 refine dV 2 13 (.slice (some ⟨g, off, none⟩) 104 c) rfl rfl (fun _ _ => by kernel_rfl) sS1 ?_
 refine dV 3 14 (.slice (some ⟨g, off + 0, none⟩) 32 32) rfl rfl (fun w' hw' => (Mur.run_cut3 22 (.tmp 13) none (.const (.int .i64 32)) (.const (.int .i64 32)) rfl 5 Tryd.underlying22 (by kernel_rfl) g off 104 c 0 32 32 32 (by kernel_rfl) (.inr ⟨rfl, rfl⟩) (by kernel_rfl) (by kernel_rfl) rfl rfl (by omega) (by omega))) sS1 ?_
 refine dOp 4 (by kernel_rfl) ?_
 have kk1 : Chg [] w W1 := Chg.step ((Chg.refl _).more (by simp)) ch1 trivial
 have kk2 := Chg.step kk1 ch2 trivial
 refine oEx (some 15) _ rfl rfl (by kernel_rfl) (Mur.copy_mid (.tmp 12) (.tmp 14) 22 22 rfl 5 Tryd.underlying22 (by kernel_rfl) w.heap.size 0 32 32 (by kernel_rfl) (some ⟨g, off + 0, none⟩) 32 32 (by kernel_rfl) 36 (Mur.attC Mur.z32 Mur.z32 0 Mur.z32) K (Chg.hp ch2 hb1 trivial) (Mur.byt_chg hb0 kk2 (fun g off e hl => trivial)) (by omega) (by omega) (by rw [Mur.attC_length rfl rfl rfl]; omega) _ (Mur.att_sp0 rfl hb0.1)) ?_
 rintro _ W3 ⟨rfl, hb2, ch3⟩
 have zz3 := ch3.size
 have sS2 := Chg.step sS1 ch3 ⟨.inl (by simp), trivial⟩
 refine ⟨sS2, ?_⟩
 refine dEnd (by kernel_rfl) (nxt (wp_seq ?_))
 refine dReg ([w.heap.size]) (by kernel_rfl) ?_
 intro W4 ch4 sz3
 have zz4 := ch4.size
 have sS3 : Chg ([w.heap.size]) W4 W4 := (Chg.refl _).more (by simp)
 refine dV 0 16 (pt w.heap.size 32) rfl rfl (fun _ _ => by kernel_rfl) sS3 ?_
 refine dV 1 17 (.slice (some ⟨w.heap.size, 32, none⟩) 32 32) rfl rfl (fun w' hw' => (Mur.arr_slice_at 29 5 (.tmp 16) 32 rfl Tryd.underlying29 (by kernel_rfl) w.heap.size 32 (by kernel_rfl))) sS3 ?_
 refine dV 2 18 (.slice (some ⟨g, off, none⟩) 104 c) rfl rfl (fun _ _ => by kernel_rfl) sS3 ?_
 refine dV 3 19 (.slice (some ⟨g, off + 32, none⟩) 32 32) rfl rfl (fun w' hw' => (Mur.run_cut3 22 (.tmp 18) (some (.const (.int .i64 32))) (.const (.int .i64 64)) (.const (.int .i64 64)) rfl 5 Tryd.underlying22 (by kernel_rfl) g off 104 c 32 64 64 32 (by kernel_rfl) (.inl (by kernel_rfl)) (by kernel_rfl) (by kernel_rfl) rfl rfl (by omega) (by omega))) sS3 ?_
 refine dOp 4 (by kernel_rfl) ?_
 have kk3 := Chg.step kk2 ch3 ⟨.inr (by omega), trivial⟩
 have kk4 := Chg.step kk3 ch4 trivial
 refine oEx (some 20) _ rfl rfl (by kernel_rfl) (Mur.copy_mid (.tmp 17) (.tmp 19) 22 22 rfl 5 Tryd.underlying22 (by kernel_rfl) w.heap.size 32 32 32 (by kernel_rfl) (some ⟨g, off + 32, none⟩) 32 32 (by kernel_rfl) 36 (Mur.attC K Mur.z32 0 Mur.z32) R (Chg.hp ch4 hb2 trivial) (Mur.byt_chg hb32 kk4 (fun g off e hl => trivial)) (by omega) (by omega) (by rw [Mur.attC_length hb0.1 rfl rfl]; omega) _ (Mur.att_sp32 hb0.1 rfl hb32.1)) ?_
 rintro _ W5 ⟨rfl, hb3, ch5⟩
 have zz5 := ch5.size
 have sS4 := Chg.step sS3 ch5 ⟨.inl (by simp), trivial⟩
 refine ⟨sS4, ?_⟩
 refine dEnd (by kernel_rfl) (nxt (wp_seq (reg ?_)))
 refine rP 0 4 (.int .u64 0) rfl rfl ?_
 refine rEnd 1 rfl (nxt (wp_seq (wp_seq (reg ?_))))
 refine rP 0 21 (.slice (some ⟨g, off, none⟩) 104 c) rfl rfl ?_
 refine rQ 1 22 (.slice (some ⟨g, off + 64, none⟩) 8 8) rfl rfl (Mur.run_cut3 22 (.tmp 21) (some (.const (.int .i64 64))) (.const (.int .i64 72)) (.const (.int .i64 72)) rfl 5 Tryd.underlying22 (by kernel_rfl) g off 104 c 64 72 72 8 (by kernel_rfl) (.inl (by kernel_rfl)) (by kernel_rfl) (by kernel_rfl) rfl rfl (by omega) (by omega)) ?_
 refine rP 2 23 (.int .i64 8) rfl rfl ?_
 refine rP 3 24 (.int .i64 0) rfl rfl ?_
 refine rEnd 4 rfl (nxt (wp_block ?_))
 refine Wk.loopN 9 ?_
 refine Wk.rdS (wp_seq (reg ?_))
 refine rQ 0 25 _ rfl rfl (qboolT (b := decide ((0 : Int) < (8 : Int))) (decide_eq_true (by decide))) ?_
 refine rEnd 1 rfl (nxt (wp_seq (wp_cond_true (by kernel_rfl) (wp_skip (nxt (wp_seq (wp_block (wp_seq (reg ?_)))))))))
 refine rQ 0 26 (pt g (off + 64 + 0 * 1)) rfl rfl (index_sl 22 5 (.tmp 22) (.tmp 24) rfl Tryd.underlying22 1 (by kernel_rfl) g (off + 64) 8 8 0 .i64 (by kernel_rfl) (by kernel_rfl) (by omega)) ?_
 have kk5 := Chg.step kk4 ch5 ⟨.inr (by omega), trivial⟩
 refine rQ 1 27 _ rfl rfl (ld 5 26 g (off + 64 + 0 * 1) (.int .u8 (((E.getD 0 0).toNat : Nat) : Int)) (Mur.byt_cell (Mur.byt_chg hb64 kk5 (fun g off e hl => trivial)) 0 (by omega))) ?_
 refine rP 2 6 (.int .u8 (((E.getD 0 0).toNat : Nat) : Int)) rfl rfl ?_
 refine rEnd 3 rfl (nxt (reg ?_))
 refine rP 0 28 (.int .u64 0) rfl rfl ?_
 refine rQ 1 29 (.int .u64 ((0 * 256 : Nat) : Int)) rfl rfl (Mur.shl8_64 24 139 (.tmp 28) (.const (.int .u64 8)) rfl 0 .u64 (by kernel_rfl) (by kernel_rfl) (by omega)) ?_
 refine rP 2 30 (.int .u8 (((E.getD 0 0).toNat : Nat) : Int)) rfl rfl ?_
 refine rQ 3 31 (.int .u64 (((E.getD 0 0).toNat : Nat) : Int)) rfl rfl (Mur.conv_int 5 24 (.tmp 30) rfl (by kernel_rfl) .u64 Tryd.underlying24 .u8 (((E.getD 0 0).toNat : Nat) : Int) (by kernel_rfl) (Mur.u64_nat (by omega))) ?_
 refine rQ 4 32 (.int .u64 ((0 * 256 + (E.getD 0 0).toNat : Nat) : Int)) rfl rfl (Mur.or64 24 24 (.tmp 29) (.tmp 31) rfl 0 (E.getD 0 0).toNat (by kernel_rfl) (by kernel_rfl) (by omega) (by omega)) ?_
 refine rP 5 4 (.int .u64 ((0 * 256 + (E.getD 0 0).toNat : Nat) : Int)) rfl rfl ?_
 refine rEnd 6 rfl (inN (nxt (reg ?_)))
 refine rQ 0 33 _ rfl rfl (qint64 (n := 0 + 1) (z := 1) (by omega) (by omega) (by omega)) ?_
 refine rP 1 24 (.int .i64 1) rfl rfl ?_
 refine rEnd 2 rfl (nxt (Wk.rdS (wp_seq (reg ?_))))
 refine rQ 0 25 _ rfl rfl (qboolT (b := decide ((1 : Int) < (8 : Int))) (decide_eq_true (by decide))) ?_
 refine rEnd 1 rfl (nxt (wp_seq (wp_cond_true (by kernel_rfl) (wp_skip (nxt (wp_seq (wp_block (wp_seq (reg ?_)))))))))
 refine rQ 0 26 (pt g (off + 64 + 1 * 1)) rfl rfl (index_sl 22 5 (.tmp 22) (.tmp 24) rfl Tryd.underlying22 1 (by kernel_rfl) g (off + 64) 8 8 1 .i64 (by kernel_rfl) (by kernel_rfl) (by omega)) ?_
 refine rQ 1 27 _ rfl rfl (ld 5 26 g (off + 64 + 1 * 1) (.int .u8 (((E.getD 1 0).toNat : Nat) : Int)) (Mur.byt_cell (Mur.byt_chg hb64 kk5 (fun g off e hl => trivial)) 1 (by omega))) ?_
 refine rP 2 6 (.int .u8 (((E.getD 1 0).toNat : Nat) : Int)) rfl rfl ?_
 refine rEnd 3 rfl (nxt (reg ?_))
 refine rP 0 28 (.int .u64 ((0 * 256 + (E.getD 0 0).toNat : Nat) : Int)) rfl rfl ?_
 refine rQ 1 29 (.int .u64 (((0 * 256 + (E.getD 0 0).toNat) * 256 : Nat) : Int)) rfl rfl (Mur.shl8_64 24 139 (.tmp 28) (.const (.int .u64 8)) rfl (0 * 256 + (E.getD 0 0).toNat) .u64 (by kernel_rfl) (by kernel_rfl) (by omega)) ?_
 refine rP 2 30 (.int .u8 (((E.getD 1 0).toNat : Nat) : Int)) rfl rfl ?_
 refine rQ 3 31 (.int .u64 (((E.getD 1 0).toNat : Nat) : Int)) rfl rfl (Mur.conv_int 5 24 (.tmp 30) rfl (by kernel_rfl) .u64 Tryd.underlying24 .u8 (((E.getD 1 0).toNat : Nat) : Int) (by kernel_rfl) (Mur.u64_nat (by omega))) ?_
 refine rQ 4 32 (.int .u64 (((0 * 256 + (E.getD 0 0).toNat) * 256 + (E.getD 1 0).toNat : Nat) : Int)) rfl rfl (Mur.or64 24 24 (.tmp 29) (.tmp 31) rfl (0 * 256 + (E.getD 0 0).toNat) (E.getD 1 0).toNat (by kernel_rfl) (by kernel_rfl) (by omega) (by omega)) ?_
 refine rP 5 4 (.int .u64 (((0 * 256 + (E.getD 0 0).toNat) * 256 + (E.getD 1 0).toNat : Nat) : Int)) rfl rfl ?_
 refine rEnd 6 rfl (inN (nxt (reg ?_)))
 refine rQ 0 33 _ rfl rfl (qint64 (n := 1 + 1) (z := 2) (by omega) (by omega) (by omega)) ?_
 refine rP 1 24 (.int .i64 2) rfl rfl ?_
 refine rEnd 2 rfl (nxt (Wk.rdS (wp_seq (reg ?_))))
 refine rQ 0 25 _ rfl rfl (qboolT (b := decide ((2 : Int) < (8 : Int))) (decide_eq_true (by decide))) ?_
 refine rEnd 1 rfl (nxt (wp_seq (wp_cond_true (by kernel_rfl) (wp_skip (nxt (wp_seq (wp_block (wp_seq (reg ?_)))))))))
 refine rQ 0 26 (pt g (off + 64 + 2 * 1)) rfl rfl (index_sl 22 5 (.tmp 22) (.tmp 24) rfl Tryd.underlying22 1 (by kernel_rfl) g (off + 64) 8 8 2 .i64 (by kernel_rfl) (by kernel_rfl) (by omega)) ?_
 refine rQ 1 27 _ rfl rfl (ld 5 26 g (off + 64 + 2 * 1) (.int .u8 (((E.getD 2 0).toNat : Nat) : Int)) (Mur.byt_cell (Mur.byt_chg hb64 kk5 (fun g off e hl => trivial)) 2 (by omega))) ?_
 refine rP 2 6 (.int .u8 (((E.getD 2 0).toNat : Nat) : Int)) rfl rfl ?_
 refine rEnd 3 rfl (nxt (reg ?_))
 refine rP 0 28 (.int .u64 (((0 * 256 + (E.getD 0 0).toNat) * 256 + (E.getD 1 0).toNat : Nat) : Int)) rfl rfl ?_
 refine rQ 1 29 (.int .u64 ((((0 * 256 + (E.getD 0 0).toNat) * 256 + (E.getD 1 0).toNat) * 256 : Nat) : Int)) rfl rfl (Mur.shl8_64 24 139 (.tmp 28) (.const (.int .u64 8)) rfl ((0 * 256 + (E.getD 0 0).toNat) * 256 + (E.getD 1 0).toNat) .u64 (by kernel_rfl) (by kernel_rfl) (by omega)) ?_
 refine rP 2 30 (.int .u8 (((E.getD 2 0).toNat : Nat) : Int)) rfl rfl ?_
 refine rQ 3 31 (.int .u64 (((E.getD 2 0).toNat : Nat) : Int)) rfl rfl (Mur.conv_int 5 24 (.tmp 30) rfl (by kernel_rfl) .u64 Tryd.underlying24 .u8 (((E.getD 2 0).toNat : Nat) : Int) (by kernel_rfl) (Mur.u64_nat (by omega))) ?_
 refine rQ 4 32 (.int .u64 ((((0 * 256 + (E.getD 0 0).toNat) * 256 + (E.getD 1 0).toNat) * 256 + (E.getD 2 0).toNat : Nat) : Int)) rfl rfl (Mur.or64 24 24 (.tmp 29) (.tmp 31) rfl ((0 * 256 + (E.getD 0 0).toNat) * 256 + (E.getD 1 0).toNat) (E.getD 2 0).toNat (by kernel_rfl) (by kernel_rfl) (by omega) (by omega)) ?_
 refine rP 5 4 (.int .u64 ((((0 * 256 + (E.getD 0 0).toNat) * 256 + (E.getD 1 0).toNat) * 256 + (E.getD 2 0).toNat : Nat) : Int)) rfl rfl ?_
 refine rEnd 6 rfl (inN (nxt (reg ?_)))
 refine rQ 0 33 _ rfl rfl (qint64 (n := 2 + 1) (z := 3) (by omega) (by omega) (by omega)) ?_
 refine rP 1 24 (.int .i64 3) rfl rfl ?_
 refine rEnd 2 rfl (nxt (Wk.rdS (wp_seq (reg ?_))))
 refine rQ 0 25 _ rfl rfl (qboolT (b := decide ((3 : Int) < (8 : Int))) (decide_eq_true (by decide))) ?_
 refine rEnd 1 rfl (nxt (wp_seq (wp_cond_true (by kernel_rfl) (wp_skip (nxt (wp_seq (wp_block (wp_seq (reg ?_)))))))))
 refine rQ 0 26 (pt g (off + 64 + 3 * 1)) rfl rfl (index_sl 22 5 (.tmp 22) (.tmp 24) rfl Tryd.underlying22 1 (by kernel_rfl) g (off + 64) 8 8 3 .i64 (by kernel_rfl) (by kernel_rfl) (by omega)) ?_
 refine rQ 1 27 _ rfl rfl (ld 5 26 g (off + 64 + 3 * 1) (.int .u8 (((E.getD 3 0).toNat : Nat) : Int)) (Mur.byt_cell (Mur.byt_chg hb64 kk5 (fun g off e hl => trivial)) 3 (by omega))) ?_
 refine rP 2 6 (.int .u8 (((E.getD 3 0).toNat : Nat) : Int)) rfl rfl ?_
 refine rEnd 3 rfl (nxt (reg ?_))
 refine rP 0 28 (.int .u64 ((((0 * 256 + (E.getD 0 0).toNat) * 256 + (E.getD 1 0).toNat) * 256 + (E.getD 2 0).toNat : Nat) : Int)) rfl rfl ?_
 refine rQ 1 29 (.int .u64 (((((0 * 256 + (E.getD 0 0).toNat) * 256 + (E.getD 1 0).toNat) * 256 + (E.getD 2 0).toNat) * 256 : Nat) : Int)) rfl rfl (Mur.shl8_64 24 139 (.tmp 28) (.const (.int .u64 8)) rfl (((0 * 256 + (E.getD 0 0).toNat) * 256 + (E.getD 1 0).toNat) * 256 + (E.getD 2 0).toNat) .u64 (by kernel_rfl) (by kernel_rfl) (by omega)) ?_
 refine rP 2 30 (.int .u8 (((E.getD 3 0).toNat : Nat) : Int)) rfl rfl ?_
 refine rQ 3 31 (.int .u64 (((E.getD 3 0).toNat : Nat) : Int)) rfl rfl (Mur.conv_int 5 24 (.tmp 30) rfl (by kernel_rfl) .u64 Tryd.underlying24 .u8 (((E.getD 3 0).toNat : Nat) : Int) (by kernel_rfl) (Mur.u64_nat (by omega))) ?_
 refine rQ 4 32 (.int .u64 (((((0 * 256 + (E.getD 0 0).toNat) * 256 + (E.getD 1 0).toNat) * 256 + (E.getD 2 0).toNat) * 256 + (E.getD 3 0).toNat : Nat) : Int)) rfl rfl (Mur.or64 24 24 (.tmp 29) (.tmp 31) rfl (((0 * 256 + (E.getD 0 0).toNat) * 256 + (E.getD 1 0).toNat) * 256 + (E.getD 2 0).toNat) (E.getD 3 0).toNat (by kernel_rfl) (by kernel_rfl) (by omega) (by omega)) ?_
 refine rP 5 4 (.int .u64 (((((0 * 256 + (E.getD 0 0).toNat) * 256 + (E.getD 1 0).toNat) * 256 + (E.getD 2 0).toNat) * 256 + (E.getD 3 0).toNat : Nat) : Int)) rfl rfl ?_
 refine rEnd 6 rfl (inN (nxt (reg ?_)))
 refine rQ 0 33 _ rfl rfl (qint64 (n := 3 + 1) (z := 4) (by omega) (by omega) (by omega)) ?_
 refine rP 1 24 (.int .i64 4) rfl rfl ?_
 refine rEnd 2 rfl (nxt (Wk.rdS (wp_seq (reg ?_))))
 refine rQ 0 25 _ rfl rfl (qboolT (b := decide ((4 : Int) < (8 : Int))) (decide_eq_true (by decide))) ?_
 refine rEnd 1 rfl (nxt (wp_seq (wp_cond_true (by kernel_rfl) (wp_skip (nxt (wp_seq (wp_block (wp_seq (reg ?_)))))))))
 refine rQ 0 26 (pt g (off + 64 + 4 * 1)) rfl rfl (index_sl 22 5 (.tmp 22) (.tmp 24) rfl Tryd.underlying22 1 (by kernel_rfl) g (off + 64) 8 8 4 .i64 (by kernel_rfl) (by kernel_rfl) (by omega)) ?_
 refine rQ 1 27 _ rfl rfl (ld 5 26 g (off + 64 + 4 * 1) (.int .u8 (((E.getD 4 0).toNat : Nat) : Int)) (Mur.byt_cell (Mur.byt_chg hb64 kk5 (fun g off e hl => trivial)) 4 (by omega))) ?_
 refine rP 2 6 (.int .u8 (((E.getD 4 0).toNat : Nat) : Int)) rfl rfl ?_
 refine rEnd 3 rfl (nxt (reg ?_))
 refine rP 0 28 (.int .u64 (((((0 * 256 + (E.getD 0 0).toNat) * 256 + (E.getD 1 0).toNat) * 256 + (E.getD 2 0).toNat) * 256 + (E.getD 3 0).toNat : Nat) : Int)) rfl rfl ?_
 refine rQ 1 29 (.int .u64 ((((((0 * 256 + (E.getD 0 0).toNat) * 256 + (E.getD 1 0).toNat) * 256 + (E.getD 2 0).toNat) * 256 + (E.getD 3 0).toNat) * 256 : Nat) : Int)) rfl rfl (Mur.shl8_64 24 139 (.tmp 28) (.const (.int .u64 8)) rfl ((((0 * 256 + (E.getD 0 0).toNat) * 256 + (E.getD 1 0).toNat) * 256 + (E.getD 2 0).toNat) * 256 + (E.getD 3 0).toNat) .u64 (by kernel_rfl) (by kernel_rfl) (by omega)) ?_
 refine rP 2 30 (.int .u8 (((E.getD 4 0).toNat : Nat) : Int)) rfl rfl ?_
 refine rQ 3 31 (.int .u64 (((E.getD 4 0).toNat : Nat) : Int)) rfl rfl (Mur.conv_int 5 24 (.tmp 30) rfl (by kernel_rfl) .u64 Tryd.underlying24 .u8 (((E.getD 4 0).toNat : Nat) : Int) (by kernel_rfl) (Mur.u64_nat (by omega))) ?_
 refine rQ 4 32 (.int .u64 ((((((0 * 256 + (E.getD 0 0).toNat) * 256 + (E.getD 1 0).toNat) * 256 + (E.getD 2 0).toNat) * 256 + (E.getD 3 0).toNat) * 256 + (E.getD 4 0).toNat : Nat) : Int)) rfl rfl (Mur.or64 24 24 (.tmp 29) (.tmp 31) rfl ((((0 * 256 + (E.getD 0 0).toNat) * 256 + (E.getD 1 0).toNat) * 256 + (E.getD 2 0).toNat) * 256 + (E.getD 3 0).toNat) (E.getD 4 0).toNat (by kernel_rfl) (by kernel_rfl) (by omega) (by omega)) ?_
 refine rP 5 4 (.int .u64 ((((((0 * 256 + (E.getD 0 0).toNat) * 256 + (E.getD 1 0).toNat) * 256 + (E.getD 2 0).toNat) * 256 + (E.getD 3 0).toNat) * 256 + (E.getD 4 0).toNat : Nat) : Int)) rfl rfl ?_
 refine rEnd 6 rfl (inN (nxt (reg ?_)))
 refine rQ 0 33 _ rfl rfl (qint64 (n := 4 + 1) (z := 5) (by omega) (by omega) (by omega)) ?_
 refine rP 1 24 (.int .i64 5) rfl rfl ?_
 refine rEnd 2 rfl (nxt (Wk.rdS (wp_seq (reg ?_))))
 refine rQ 0 25 _ rfl rfl (qboolT (b := decide ((5 : Int) < (8 : Int))) (decide_eq_true (by decide))) ?_
 refine rEnd 1 rfl (nxt (wp_seq (wp_cond_true (by kernel_rfl) (wp_skip (nxt (wp_seq (wp_block (wp_seq (reg ?_)))))))))
 refine rQ 0 26 (pt g (off + 64 + 5 * 1)) rfl rfl (index_sl 22 5 (.tmp 22) (.tmp 24) rfl Tryd.underlying22 1 (by kernel_rfl) g (off + 64) 8 8 5 .i64 (by kernel_rfl) (by kernel_rfl) (by omega)) ?_
 refine rQ 1 27 _ rfl rfl (ld 5 26 g (off + 64 + 5 * 1) (.int .u8 (((E.getD 5 0).toNat : Nat) : Int)) (Mur.byt_cell (Mur.byt_chg hb64 kk5 (fun g off e hl => trivial)) 5 (by omega))) ?_
 refine rP 2 6 (.int .u8 (((E.getD 5 0).toNat : Nat) : Int)) rfl rfl ?_
 refine rEnd 3 rfl (nxt (reg ?_))
 refine rP 0 28 (.int .u64 ((((((0 * 256 + (E.getD 0 0).toNat) * 256 + (E.getD 1 0).toNat) * 256 + (E.getD 2 0).toNat) * 256 + (E.getD 3 0).toNat) * 256 + (E.getD 4 0).toNat : Nat) : Int)) rfl rfl ?_
 refine rQ 1 29 (.int .u64 (((((((0 * 256 + (E.getD 0 0).toNat) * 256 + (E.getD 1 0).toNat) * 256 + (E.getD 2 0).toNat) * 256 + (E.getD 3 0).toNat) * 256 + (E.getD 4 0).toNat) * 256 : Nat) : Int)) rfl rfl (Mur.shl8_64 24 139 (.tmp 28) (.const (.int .u64 8)) rfl (((((0 * 256 + (E.getD 0 0).toNat) * 256 + (E.getD 1 0).toNat) * 256 + (E.getD 2 0).toNat) * 256 + (E.getD 3 0).toNat) * 256 + (E.getD 4 0).toNat) .u64 (by kernel_rfl) (by kernel_rfl) (by omega)) ?_
 refine rP 2 30 (.int .u8 (((E.getD 5 0).toNat : Nat) : Int)) rfl rfl ?_
 refine rQ 3 31 (.int .u64 (((E.getD 5 0).toNat : Nat) : Int)) rfl rfl (Mur.conv_int 5 24 (.tmp 30) rfl (by kernel_rfl) .u64 Tryd.underlying24 .u8 (((E.getD 5 0).toNat : Nat) : Int) (by kernel_rfl) (Mur.u64_nat (by omega))) ?_
 refine rQ 4 32 (.int .u64 (((((((0 * 256 + (E.getD 0 0).toNat) * 256 + (E.getD 1 0).toNat) * 256 + (E.getD 2 0).toNat) * 256 + (E.getD 3 0).toNat) * 256 + (E.getD 4 0).toNat) * 256 + (E.getD 5 0).toNat : Nat) : Int)) rfl rfl (Mur.or64 24 24 (.tmp 29) (.tmp 31) rfl (((((0 * 256 + (E.getD 0 0).toNat) * 256 + (E.getD 1 0).toNat) * 256 + (E.getD 2 0).toNat) * 256 + (E.getD 3 0).toNat) * 256 + (E.getD 4 0).toNat) (E.getD 5 0).toNat (by kernel_rfl) (by kernel_rfl) (by omega) (by omega)) ?_
 refine rP 5 4 (.int .u64 (((((((0 * 256 + (E.getD 0 0).toNat) * 256 + (E.getD 1 0).toNat) * 256 + (E.getD 2 0).toNat) * 256 + (E.getD 3 0).toNat) * 256 + (E.getD 4 0).toNat) * 256 + (E.getD 5 0).toNat : Nat) : Int)) rfl rfl ?_
 refine rEnd 6 rfl (inN (nxt (reg ?_)))
 refine rQ 0 33 _ rfl rfl (qint64 (n := 5 + 1) (z := 6) (by omega) (by omega) (by omega)) ?_
 refine rP 1 24 (.int .i64 6) rfl rfl ?_
 refine rEnd 2 rfl (nxt (Wk.rdS (wp_seq (reg ?_))))
 refine rQ 0 25 _ rfl rfl (qboolT (b := decide ((6 : Int) < (8 : Int))) (decide_eq_true (by decide))) ?_
 refine rEnd 1 rfl (nxt (wp_seq (wp_cond_true (by kernel_rfl) (wp_skip (nxt (wp_seq (wp_block (wp_seq (reg ?_)))))))))
 refine rQ 0 26 (pt g (off + 64 + 6 * 1)) rfl rfl (index_sl 22 5 (.tmp 22) (.tmp 24) rfl Tryd.underlying22 1 (by kernel_rfl) g (off + 64) 8 8 6 .i64 (by kernel_rfl) (by kernel_rfl) (by omega)) ?_
 refine rQ 1 27 _ rfl rfl (ld 5 26 g (off + 64 + 6 * 1) (.int .u8 (((E.getD 6 0).toNat : Nat) : Int)) (Mur.byt_cell (Mur.byt_chg hb64 kk5 (fun g off e hl => trivial)) 6 (by omega))) ?_
 refine rP 2 6 (.int .u8 (((E.getD 6 0).toNat : Nat) : Int)) rfl rfl ?_
 refine rEnd 3 rfl (nxt (reg ?_))
 refine rP 0 28 (.int .u64 (((((((0 * 256 + (E.getD 0 0).toNat) * 256 + (E.getD 1 0).toNat) * 256 + (E.getD 2 0).toNat) * 256 + (E.getD 3 0).toNat) * 256 + (E.getD 4 0).toNat) * 256 + (E.getD 5 0).toNat : Nat) : Int)) rfl rfl ?_
 refine rQ 1 29 (.int .u64 ((((((((0 * 256 + (E.getD 0 0).toNat) * 256 + (E.getD 1 0).toNat) * 256 + (E.getD 2 0).toNat) * 256 + (E.getD 3 0).toNat) * 256 + (E.getD 4 0).toNat) * 256 + (E.getD 5 0).toNat) * 256 : Nat) : Int)) rfl rfl (Mur.shl8_64 24 139 (.tmp 28) (.const (.int .u64 8)) rfl ((((((0 * 256 + (E.getD 0 0).toNat) * 256 + (E.getD 1 0).toNat) * 256 + (E.getD 2 0).toNat) * 256 + (E.getD 3 0).toNat) * 256 + (E.getD 4 0).toNat) * 256 + (E.getD 5 0).toNat) .u64 (by kernel_rfl) (by kernel_rfl) (by omega)) ?_
 refine rP 2 30 (.int .u8 (((E.getD 6 0).toNat : Nat) : Int)) rfl rfl ?_
 refine rQ 3 31 (.int .u64 (((E.getD 6 0).toNat : Nat) : Int)) rfl rfl (Mur.conv_int 5 24 (.tmp 30) rfl (by kernel_rfl) .u64 Tryd.underlying24 .u8 (((E.getD 6 0).toNat : Nat) : Int) (by kernel_rfl) (Mur.u64_nat (by omega))) ?_
 refine rQ 4 32 (.int .u64 ((((((((0 * 256 + (E.getD 0 0).toNat) * 256 + (E.getD 1 0).toNat) * 256 + (E.getD 2 0).toNat) * 256 + (E.getD 3 0).toNat) * 256 + (E.getD 4 0).toNat) * 256 + (E.getD 5 0).toNat) * 256 + (E.getD 6 0).toNat : Nat) : Int)) rfl rfl (Mur.or64 24 24 (.tmp 29) (.tmp 31) rfl ((((((0 * 256 + (E.getD 0 0).toNat) * 256 + (E.getD 1 0).toNat) * 256 + (E.getD 2 0).toNat) * 256 + (E.getD 3 0).toNat) * 256 + (E.getD 4 0).toNat) * 256 + (E.getD 5 0).toNat) (E.getD 6 0).toNat (by kernel_rfl) (by kernel_rfl) (by omega) (by omega)) ?_
 refine rP 5 4 (.int .u64 ((((((((0 * 256 + (E.getD 0 0).toNat) * 256 + (E.getD 1 0).toNat) * 256 + (E.getD 2 0).toNat) * 256 + (E.getD 3 0).toNat) * 256 + (E.getD 4 0).toNat) * 256 + (E.getD 5 0).toNat) * 256 + (E.getD 6 0).toNat : Nat) : Int)) rfl rfl ?_
 refine rEnd 6 rfl (inN (nxt (reg ?_)))
 refine rQ 0 33 _ rfl rfl (qint64 (n := 6 + 1) (z := 7) (by omega) (by omega) (by omega)) ?_
 refine rP 1 24 (.int .i64 7) rfl rfl ?_
 refine rEnd 2 rfl (nxt (Wk.rdS (wp_seq (reg ?_))))
 refine rQ 0 25 _ rfl rfl (qboolT (b := decide ((7 : Int) < (8 : Int))) (decide_eq_true (by decide))) ?_
 refine rEnd 1 rfl (nxt (wp_seq (wp_cond_true (by kernel_rfl) (wp_skip (nxt (wp_seq (wp_block (wp_seq (reg ?_)))))))))
 refine rQ 0 26 (pt g (off + 64 + 7 * 1)) rfl rfl (index_sl 22 5 (.tmp 22) (.tmp 24) rfl Tryd.underlying22 1 (by kernel_rfl) g (off + 64) 8 8 7 .i64 (by kernel_rfl) (by kernel_rfl) (by omega)) ?_
 refine rQ 1 27 _ rfl rfl (ld 5 26 g (off + 64 + 7 * 1) (.int .u8 (((E.getD 7 0).toNat : Nat) : Int)) (Mur.byt_cell (Mur.byt_chg hb64 kk5 (fun g off e hl => trivial)) 7 (by omega))) ?_
 refine rP 2 6 (.int .u8 (((E.getD 7 0).toNat : Nat) : Int)) rfl rfl ?_
 refine rEnd 3 rfl (nxt (reg ?_))
 refine rP 0 28 (.int .u64 ((((((((0 * 256 + (E.getD 0 0).toNat) * 256 + (E.getD 1 0).toNat) * 256 + (E.getD 2 0).toNat) * 256 + (E.getD 3 0).toNat) * 256 + (E.getD 4 0).toNat) * 256 + (E.getD 5 0).toNat) * 256 + (E.getD 6 0).toNat : Nat) : Int)) rfl rfl ?_
 refine rQ 1 29 (.int .u64 (((((((((0 * 256 + (E.getD 0 0).toNat) * 256 + (E.getD 1 0).toNat) * 256 + (E.getD 2 0).toNat) * 256 + (E.getD 3 0).toNat) * 256 + (E.getD 4 0).toNat) * 256 + (E.getD 5 0).toNat) * 256 + (E.getD 6 0).toNat) * 256 : Nat) : Int)) rfl rfl (Mur.shl8_64 24 139 (.tmp 28) (.const (.int .u64 8)) rfl (((((((0 * 256 + (E.getD 0 0).toNat) * 256 + (E.getD 1 0).toNat) * 256 + (E.getD 2 0).toNat) * 256 + (E.getD 3 0).toNat) * 256 + (E.getD 4 0).toNat) * 256 + (E.getD 5 0).toNat) * 256 + (E.getD 6 0).toNat) .u64 (by kernel_rfl) (by kernel_rfl) (by omega)) ?_
 refine rP 2 30 (.int .u8 (((E.getD 7 0).toNat : Nat) : Int)) rfl rfl ?_
 refine rQ 3 31 (.int .u64 (((E.getD 7 0).toNat : Nat) : Int)) rfl rfl (Mur.conv_int 5 24 (.tmp 30) rfl (by kernel_rfl) .u64 Tryd.underlying24 .u8 (((E.getD 7 0).toNat : Nat) : Int) (by kernel_rfl) (Mur.u64_nat (by omega))) ?_
 refine rQ 4 32 (.int .u64 (((((((((0 * 256 + (E.getD 0 0).toNat) * 256 + (E.getD 1 0).toNat) * 256 + (E.getD 2 0).toNat) * 256 + (E.getD 3 0).toNat) * 256 + (E.getD 4 0).toNat) * 256 + (E.getD 5 0).toNat) * 256 + (E.getD 6 0).toNat) * 256 + (E.getD 7 0).toNat : Nat) : Int)) rfl rfl (Mur.or64 24 24 (.tmp 29) (.tmp 31) rfl (((((((0 * 256 + (E.getD 0 0).toNat) * 256 + (E.getD 1 0).toNat) * 256 + (E.getD 2 0).toNat) * 256 + (E.getD 3 0).toNat) * 256 + (E.getD 4 0).toNat) * 256 + (E.getD 5 0).toNat) * 256 + (E.getD 6 0).toNat) (E.getD 7 0).toNat (by kernel_rfl) (by kernel_rfl) (by omega) (by omega)) ?_
 refine rP 5 4 (.int .u64 (((((((((0 * 256 + (E.getD 0 0).toNat) * 256 + (E.getD 1 0).toNat) * 256 + (E.getD 2 0).toNat) * 256 + (E.getD 3 0).toNat) * 256 + (E.getD 4 0).toNat) * 256 + (E.getD 5 0).toNat) * 256 + (E.getD 6 0).toNat) * 256 + (E.getD 7 0).toNat : Nat) : Int)) rfl rfl ?_
 refine rEnd 6 rfl (inN (nxt (reg ?_)))
 refine rQ 0 33 _ rfl rfl (qint64 (n := 7 + 1) (z := 8) (by omega) (by omega) (by omega)) ?_
 refine rP 1 24 (.int .i64 8) rfl rfl ?_
 refine rEnd 2 rfl (nxt (Wk.rdS (wp_seq (reg ?_))))
 refine rQ 0 25 _ rfl rfl (qboolF (b := decide ((8 : Int) < (8 : Int))) (decide_eq_false (by decide))) ?_
 refine rEnd 1 rfl (nxt (wp_seq (wp_cond_false (by kernel_rfl) (wp_exit (thX (thX (inX (nxt (wp_seq (wp_seq (reg ?_)))))))))))
 refine rQ 0 34 (.int .u64 ((V : Nat) : Int)) rfl rfl (Wk.val (v := .int .u64 (((((((((0 * 256 + (E.getD 0 0).toNat) * 256 + (E.getD 1 0).toNat) * 256 + (E.getD 2 0).toNat) * 256 + (E.getD 3 0).toNat) * 256 + (E.getD 4 0).toNat) * 256 + (E.getD 5 0).toNat) * 256 + (E.getD 6 0).toNat) * 256 + (E.getD 7 0).toNat : Nat) : Int)) (congrArg (fun z : Nat => Value.int .u64 (z : Int)) hV) (by kernel_rfl)) ?_
 by_cases hx1 : ((V : Nat) : Int) < (1 : Int)
 ·refine rQ 1 35 _ rfl rfl (qboolT (b := decide (((V : Nat) : Int) < (1 : Int))) (decide_eq_true (by first | exact hx1 | omega))) ?_
  refine rP 2 36 (.bool true) rfl rfl ?_
  refine rPass 3 (some 37) rfl rfl (by kernel_rfl) ?_
  refine rPass 4 (some 38) rfl rfl (by kernel_rfl) ?_
  refine rP 5 39 (.bool true) rfl rfl ?_
  refine rEnd 6 rfl (nxt (wp_cond_true (by kernel_rfl) (wp_seq (reg ?_))))
  refine rP 0 40 (.agg ((Mur.attC Mur.z32 Mur.z32 0 Mur.z32).toArray)) rfl rfl ?_
  refine rY 1 rfl rfl (Mur.storeArr 36 (.tmp 2) (.tmp 40) rfl w.heap.size (by kernel_rfl) (Mur.attC Mur.z32 Mur.z32 0 Mur.z32).toArray 97 (Mur.attC_size rfl rfl rfl) Mur.attC_all (by kernel_rfl) (by kernel_rfl) 36 ((Mur.attC K R 0 Mur.z32).toArray) hb3 (Mur.attC_size hb0.1 hb32.1 rfl)) ?_
  rintro W6 ⟨hb4, ch6⟩
  have zz6 := ch6.size
  refine rP 2 3 (.int .i64 5) rfl rfl ?_
  refine rEnd 3 rfl (nxt (wp_ret (thR ?_)))
  exfalso; omega
 refine rQ 1 35 _ rfl rfl (qboolF (b := decide (((V : Nat) : Int) < (1 : Int))) (decide_eq_false (by first | exact hx1 | omega))) ?_
 refine rP 2 36 (.bool false) rfl rfl ?_
 refine rQ 3 37 (.int .u64 ((V : Nat) : Int)) rfl rfl (Wk.val (v := .int .u64 (((((((((0 * 256 + (E.getD 0 0).toNat) * 256 + (E.getD 1 0).toNat) * 256 + (E.getD 2 0).toNat) * 256 + (E.getD 3 0).toNat) * 256 + (E.getD 4 0).toNat) * 256 + (E.getD 5 0).toNat) * 256 + (E.getD 6 0).toNat) * 256 + (E.getD 7 0).toNat : Nat) : Int)) (congrArg (fun z : Nat => Value.int .u64 (z : Int)) hV) (by kernel_rfl)) ?_
 by_cases hx2 : ((V : Nat) : Int) > (5000 : Int)
 ·refine rQ 4 38 _ rfl rfl (qboolT (b := decide (((V : Nat) : Int) > (5000 : Int))) (decide_eq_true (by first | exact hx2 | omega))) ?_
  refine rP 5 39 (.bool true) rfl rfl ?_
  refine rEnd 6 rfl (nxt (wp_cond_true (by kernel_rfl) (wp_seq (reg ?_))))
  refine rP 0 40 (.agg ((Mur.attC Mur.z32 Mur.z32 0 Mur.z32).toArray)) rfl rfl ?_
  refine rY 1 rfl rfl (Mur.storeArr 36 (.tmp 2) (.tmp 40) rfl w.heap.size (by kernel_rfl) (Mur.attC Mur.z32 Mur.z32 0 Mur.z32).toArray 97 (Mur.attC_size rfl rfl rfl) Mur.attC_all (by kernel_rfl) (by kernel_rfl) 36 ((Mur.attC K R 0 Mur.z32).toArray) hb3 (Mur.attC_size hb0.1 hb32.1 rfl)) ?_
  rintro W7 ⟨hb5, ch7⟩
  have zz7 := ch7.size
  refine rP 2 3 (.int .i64 5) rfl rfl ?_
  refine rEnd 3 rfl (nxt (wp_ret (thR ?_)))
  exfalso; omega
 refine rQ 4 38 _ rfl rfl (qboolF (b := decide (((V : Nat) : Int) > (5000 : Int))) (decide_eq_false (by first | exact hx2 | omega))) ?_
 refine rP 5 39 (.bool false) rfl rfl ?_
 refine rEnd 6 rfl (nxt (wp_cond_false (by kernel_rfl) (wp_skip (nxt (wp_seq (reg ?_))))))
 refine rQ 0 41 (.int .u64 ((V : Nat) : Int)) rfl rfl (Wk.val (v := .int .u64 (((((((((0 * 256 + (E.getD 0 0).toNat) * 256 + (E.getD 1 0).toNat) * 256 + (E.getD 2 0).toNat) * 256 + (E.getD 3 0).toNat) * 256 + (E.getD 4 0).toNat) * 256 + (E.getD 5 0).toNat) * 256 + (E.getD 6 0).toNat) * 256 + (E.getD 7 0).toNat : Nat) : Int)) (congrArg (fun z : Nat => Value.int .u64 (z : Int)) hV) (by kernel_rfl)) ?_
 refine rQ 1 42 (.int .i64 ((V : Nat) : Int)) rfl rfl (Mur.conv_int 24 3 (.tmp 41) rfl (by kernel_rfl) .i64 Tryd.underlying3 .u64 ((V : Nat) : Int) (by kernel_rfl) (Mur.i64_nat (by omega))) ?_
 refine rP 2 43 (pt w.heap.size 64) rfl rfl ?_
 refine rY 3 rfl rfl (Mur.store_len 3 (.tmp 43) (.tmp 42) rfl (by kernel_rfl) w.heap.size (by kernel_rfl) ((V : Nat) : Int) (by kernel_rfl) 36 K R Mur.z32 0 hb0.1 hb32.1 rfl hb3) ?_
 rintro W8 ⟨hb6, ch8⟩
 have zz8 := ch8.size
 refine rEnd 4 rfl (nxt (wp_seq ?_))
 refine dReg ([w.heap.size]) (by kernel_rfl) ?_
 intro W9 ch9 sz4
 have zz9 := ch9.size
 have sS5 : Chg ([w.heap.size]) W9 W9 := (Chg.refl _).more (by simp)
 refine dV 0 44 (pt w.heap.size 65) rfl rfl (fun _ _ => by kernel_rfl) sS5 ?_
 refine dV 1 45 (.slice (some ⟨w.heap.size, 65, none⟩) 32 32) rfl rfl (fun w' hw' => (Mur.arr_slice_at 29 5 (.tmp 44) 32 rfl Tryd.underlying29 (by kernel_rfl) w.heap.size 65 (by kernel_rfl))) sS5 ?_
 refine dV 2 46 (.slice (some ⟨g, off, none⟩) 104 c) rfl rfl (fun _ _ => by kernel_rfl) sS5 ?_
 refine dV 3 47 (.slice (some ⟨g, off + 72, none⟩) 32 (c - 72)) rfl rfl (fun w' hw' => (Mur.run_from_at 22 (.tmp 46) (.const (.int .i64 72)) rfl 5 Tryd.underlying22 (by kernel_rfl) g off 104 c 72 32 (by kernel_rfl) (by kernel_rfl) (by omega) (by omega) rfl)) sS5 ?_
 refine dOp 4 (by kernel_rfl) ?_
 have kk6 := Chg.step kk5 ch8 ⟨.inr (by omega), trivial⟩
 have kk7 := Chg.step kk6 ch9 trivial
 refine oEx (some 48) _ rfl rfl (by kernel_rfl) (Mur.copy_mid (.tmp 45) (.tmp 47) 22 22 rfl 5 Tryd.underlying22 (by kernel_rfl) w.heap.size 65 32 32 (by kernel_rfl) (some ⟨g, off + 72, none⟩) 32 (c - 72) (by kernel_rfl) 36 (Mur.attC K R ((V : Nat) : Int) Mur.z32) T (Chg.hp ch9 hb6 trivial) (Mur.byt_chg hb72 kk7 (fun g off e hl => trivial)) (by omega) (by omega) (by rw [Mur.attC_length hb0.1 hb32.1 rfl]; omega) _ (Mur.att_sp65 hb0.1 hb32.1 rfl hb72.1)) ?_
 rintro _ W10 ⟨rfl, hb7, ch10⟩
 have zz10 := ch10.size
 have sS6 := Chg.step sS5 ch10 ⟨.inl (by simp), trivial⟩
 refine ⟨sS6, ?_⟩
 refine dEnd (by kernel_rfl) (nxt (wp_seq (reg ?_)))
 refine rQ 0 49 (.agg ((Mur.attC K R ((V : Nat) : Int) T).toArray)) rfl rfl (Mur.loadArr 36 (.tmp 2) rfl _ Tryd.underlying36 rfl w.heap.size (by kernel_rfl) (Mur.attC K R ((V : Nat) : Int) T).toArray 97 (Mur.attC_size hb0.1 hb32.1 hb72.1) (by kernel_rfl) 36 (0, 0) hb7) ?_
 refine rY 1 rfl rfl (Mur.storeArr 36 (.tmp 2) (.tmp 49) rfl w.heap.size (by kernel_rfl) (Mur.attC K R ((V : Nat) : Int) T).toArray 97 (Mur.attC_size hb0.1 hb32.1 hb72.1) Mur.attC_all (by kernel_rfl) (by kernel_rfl) 36 ((Mur.attC K R ((V : Nat) : Int) T).toArray) hb7 (Mur.attC_size hb0.1 hb32.1 hb72.1)) ?_
 rintro W11 ⟨hb8, ch11⟩
 have zz11 := ch11.size
 refine rP 2 3 (.int .i64 0) rfl rfl ?_
 refine rEnd 3 rfl (nxt (wp_ret ?_))
 have kk8 := Chg.step kk7 ch10 ⟨.inr (by omega), trivial⟩
 have kk9 := Chg.step kk8 ch11 ⟨.inr (by omega), trivial⟩
 refine Wk.ret (.tuple #[.agg (Mur.attC K R ((V : Nat) : Int) T).toArray, .int .i64 0]) rfl (results_att rfl _ _ w.heap.size (Mur.attC K R ((V : Nat) : Int) T).toArray (0, 0) (.int .i64 0) (by kernel_rfl) hb8 (Mur.attC_size hb0.1 hb32.1 hb72.1) (by kernel_rfl)) ?_
 exact ⟨rfl, kk9⟩
end Go.Proofs.YtgbadghjnpbiaaaDoor
namespace Go.Proofs.YtgbadghjnpbiaaaDoor
open Go.RowKit Wk
open Mur (b8s Byt Own8 Seg Segs flat cutA attC)
set_option maxRecDepth 100000
set_option maxHeartbeats 4000000
theorem Bytes_ok (k r t : List UInt8) (n : Int) (hk : k.length = 32) (hr : r.length = 32) (ht : t.length = 32) (w : World) (hm : Mur.may n) : Calls Tryd.prog 47 #[.agg (attC k r n t).toArray] w fun e w' => ∃ q cq B, Hid (B = Mur.rawL k r n t) ∧ e = .returned (.tuple #[.slice (some ⟨q, 0, none⟩) 104 cq, .int .i64 0]) ∧ Byt w' (some ⟨q, 0, none⟩) 104 B ∧ (w.heap.size ≤ q ∧ q < w'.heap.size) ∧ (104 ≤ cq ∧ cq ≤ 9223372036854775807) ∧ Chg [] w w' := by
 refine calls_of_wp Tryd.func47 rfl ?_
 refine wp_seq (reg ?_)
 refine rX 0 1 rfl rfl (new_ex (pt w.heap.size 0) ((Mur.attC k r n t).toArray) 36 (by kernel_rfl)) ?_
 rintro _ W1 ⟨rfl, hb1, ch1, sz1⟩
 have zz1 := ch1.size
 refine rP 1 2 (.slice none 0 0) rfl rfl ?_
 refine rP 2 3 (.int .i64 0) rfl rfl ?_
 refine rEnd 3 rfl (nxt (wp_seq (wp_seq (reg ?_))))
 refine rQ 0 4 (.agg ((Mur.attC k r n t).toArray)) rfl rfl (Mur.loadArr 36 (.tmp 1) rfl _ Tryd.underlying36 rfl w.heap.size (by kernel_rfl) (Mur.attC k r n t).toArray 97 (Mur.attC_size hk hr ht) (by kernel_rfl) 36 (0, 0) hb1) ?_
 refine rC 1 5 74 [.tmp 4] #[36] [.agg ((Mur.attC k r n t).toArray)] rfl rfl rfl ?_
 refine (may_any k r t n hk hr ht W1).mono ?_
 rw [decide_eq_true (hm : Mur.may n)]
 rintro _ W2 ⟨rfl, ch2⟩
 have zz2 := ch2.size
 refine ⟨_, rfl, ?_⟩
 refine rP 2 6 (.bool false) rfl rfl ?_
 refine rEnd 3 rfl (nxt (wp_cond_false (by kernel_rfl) (wp_skip (nxt (wp_seq (reg ?_))))))
 refine rQ 0 7 (.agg ((Mur.attC k r n t).toArray)) rfl rfl (Mur.loadArr 36 (.tmp 1) rfl _ Tryd.underlying36 rfl w.heap.size (by kernel_rfl) (Mur.attC k r n t).toArray 97 (Mur.attC_size hk hr ht) (by kernel_rfl) 36 (0, 0) (Chg.hp ch2 hb1 trivial)) ?_
 refine rC 1 8 75 [.tmp 7] #[36] [.agg ((Mur.attC k r n t).toArray)] rfl rfl rfl ?_
 refine (raw_any k r t n hk hr ht W2).mono ?_
 rintro _ W3 ⟨qr1, cr1, RB1, hRB1, rfl, hbr1, hq1, hq2, ch3⟩
 have zz3 := ch3.size
 have hBt1 : ∀ g off, (some ⟨qr1, 0, none⟩ : Option Addr) = some ⟨g, off, none⟩ → W2.heap.size ≤ g ∧ g < W3.heap.size := fun g off e => by cases e; exact hq1
 refine ⟨_, rfl, ?_⟩
 refine rP 2 2 (.slice (some ⟨qr1, 0, none⟩) 104 cr1) rfl rfl ?_
 refine rP 3 3 (.int .i64 0) rfl rfl ?_
 refine rEnd 4 rfl (nxt (wp_ret ?_))
 have kk1 : Chg [] w W1 := Chg.step ((Chg.refl _).more (by simp)) ch1 trivial
 have kk2 := Chg.step kk1 ch2 trivial
 have kk3 := Chg.step kk2 ch3 trivial
 refine Wk.ret (.tuple #[.slice (some ⟨qr1, 0, none⟩) 104 cr1, .int .i64 0]) rfl (by kernel_rfl) ?_
 exact ⟨_, _, _, hRB1, rfl, hbr1, ⟨by omega, by omega⟩, ⟨by omega, by omega⟩, kk3⟩
theorem Bytes_no (k r t : List UInt8) (n : Int) (hk : k.length = 32) (hr : r.length = 32) (ht : t.length = 32) (w : World) (hm : ¬ Mur.may n) : Calls Tryd.prog 47 #[.agg (attC k r n t).toArray] w fun e w' => e = .returned (.tuple #[.slice none 0 0, .int .i64 2]) ∧ Chg [] w w' := by
 refine calls_of_wp Tryd.func47 rfl ?_
 refine wp_seq (reg ?_)
 refine rX 0 1 rfl rfl (new_ex (pt w.heap.size 0) ((Mur.attC k r n t).toArray) 36 (by kernel_rfl)) ?_
 rintro _ W1 ⟨rfl, hb1, ch1, sz1⟩
 have zz1 := ch1.size
 refine rP 1 2 (.slice none 0 0) rfl rfl ?_
 refine rP 2 3 (.int .i64 0) rfl rfl ?_
 refine rEnd 3 rfl (nxt (wp_seq (wp_seq (reg ?_))))
 refine rQ 0 4 (.agg ((Mur.attC k r n t).toArray)) rfl rfl (Mur.loadArr 36 (.tmp 1) rfl _ Tryd.underlying36 rfl w.heap.size (by kernel_rfl) (Mur.attC k r n t).toArray 97 (Mur.attC_size hk hr ht) (by kernel_rfl) 36 (0, 0) hb1) ?_
 refine rC 1 5 74 [.tmp 4] #[36] [.agg ((Mur.attC k r n t).toArray)] rfl rfl rfl ?_
 refine (may_any k r t n hk hr ht W1).mono ?_
 rw [decide_eq_false (hm : ¬ Mur.may n)]
 rintro _ W2 ⟨rfl, ch2⟩
 have zz2 := ch2.size
 refine ⟨_, rfl, ?_⟩
 refine rP 2 6 (.bool true) rfl rfl ?_
 refine rEnd 3 rfl (nxt (wp_cond_true (by kernel_rfl) (wp_seq (reg ?_))))
 refine rP 0 2 (.slice none 0 0) rfl rfl ?_
 refine rP 1 3 (.int .i64 2) rfl rfl ?_
 refine rEnd 2 rfl (nxt (wp_ret (thR ?_)))
 have kk1 : Chg [] w W1 := Chg.step ((Chg.refl _).more (by simp)) ch1 trivial
 have kk2 := Chg.step kk1 ch2 trivial
 refine Wk.ret (.tuple #[.slice none 0 0, .int .i64 2]) rfl (by kernel_rfl) ?_
 exact ⟨rfl, kk2⟩
end Go.Proofs.YtgbadghjnpbiaaaDoor
