/- What the row rests on, part 7. -/
import Derived.Test.YtfhneademopciaaDoorPT4
import Derived.Test.YtfhneademopciaaDoorPT6
namespace Go.Proofs.YtfhneademopciaaDoor
open Go.RowKit Wk
open Mur (b8s Byt Own8 Seg Segs flat cutA attC)
set_option maxRecDepth 100000
set_option maxHeartbeats 4000000
theorem Join4_any (gp : Nat) (T : TypeId) (fr : Nat × Nat) (A1 A2 A3 A4 : Option Addr) (c1 c2 c3 c4 : Nat) (k r E t : List UInt8) (w : World) (hp : w.heap[gp]? = some (.cells #[.slice A1 32 c1, .slice A2 32 c2, .slice A3 8 c3, .slice A4 32 c4] T fr)) (hy1 : Byt w A1 32 k) (hy2 : Byt w A2 32 r) (hy3 : Byt w A3 8 E) (hy4 : Byt w A4 32 t) : Calls Tryd.prog 81 #[.slice (some ⟨gp, 0, none⟩) 4 4, .slice none 0 0] w fun e w' => ∃ q, e = .returned (.slice (some ⟨q, 0, none⟩) 104 104) ∧ Byt w' (some ⟨q, 0, none⟩) 104 (((k ++ r) ++ E) ++ t) ∧ (w.heap.size ≤ q ∧ q < w'.heap.size) ∧ Chg [] w w' := by
 have hgp := (Array.getElem?_eq_some_iff.1 hp).1
 refine calls_of_wp Tryd.func81 rfl ?_
 refine wp_seq (reg ?_)
 refine rP 0 4 (.slice none 0 0) rfl rfl ?_
 refine rEnd 1 rfl (nxt (wp_seq (wp_seq (reg ?_))))
 refine rP 0 12 (.slice (some ⟨gp, 0, none⟩) 4 4) rfl rfl ?_
 refine rP 1 13 (.int .i64 4) rfl rfl ?_
 refine rQ 2 14 _ rfl rfl (qboolF (b := ((4 : Int) == (0 : Int))) (beq_eq_false_iff_ne.2 (by decide))) ?_
 refine rEnd 3 rfl (nxt (wp_cond_false (by kernel_rfl) (wp_skip (nxt (wp_seq (wp_seq (reg ?_)))))))
 refine rP 0 16 (.slice (some ⟨gp, 0, none⟩) 4 4) rfl rfl ?_
 refine rP 1 17 (.int .i64 4) rfl rfl ?_
 refine rQ 2 18 _ rfl rfl (qboolF (b := ((4 : Int) == (1 : Int))) (beq_eq_false_iff_ne.2 (by decide))) ?_
 refine rEnd 3 rfl (nxt (wp_cond_false (by kernel_rfl) (wp_skip (nxt (wp_seq (reg ?_))))))
 refine rP 0 5 (.int .i64 0) rfl rfl ?_
 refine rEnd 1 rfl (nxt (wp_seq (wp_seq (reg ?_))))
 refine rP 0 23 (.slice none 0 0) rfl rfl ?_
 refine rP 1 24 (.int .i64 0) rfl rfl ?_
 refine rQ 2 25 _ rfl rfl (qboolF (b := decide ((0 : Int) > (0 : Int))) (decide_eq_false (by decide))) ?_
 refine rEnd 3 rfl (nxt (wp_cond_false (by kernel_rfl) (wp_skip (nxt (wp_seq (wp_seq (reg ?_)))))))
 refine rP 0 42 (.slice (some ⟨gp, 0, none⟩) 4 4) rfl rfl ?_
 refine rP 1 43 (.int .i64 4) rfl rfl ?_
 refine rP 2 44 (.int .i64 0) rfl rfl ?_
 refine rEnd 3 rfl (nxt (wp_block ?_))
 refine Wk.loopN 5 ?_
 refine Wk.rdS (wp_seq (reg ?_))
 refine rQ 0 45 _ rfl rfl (qboolT (b := decide ((0 : Int) < (4 : Int))) (decide_eq_true (by decide))) ?_
 refine rEnd 1 rfl (nxt (wp_seq (wp_cond_true (by kernel_rfl) (wp_skip (nxt (wp_seq (wp_block (wp_seq (reg ?_)))))))))
 refine rQ 0 46 (.pointer (some ⟨gp, 0, none⟩)) rfl rfl (index_sl 83 38 (.tmp 42) (.tmp 44) rfl Tryd.underlying83 1 (by kernel_rfl) gp 0 4 4 0 .i64 (by kernel_rfl) (by kernel_rfl) (by omega)) ?_
 refine rQ 1 47 _ rfl rfl (load1 38 (.tmp 46) rfl (by kernel_rfl) ⟨gp, 0, none⟩ (by kernel_rfl) (.slice A1 32 c1) ((cell_of_row _ _ 0 _ _ _ hp).trans rfl)) ?_
 refine rP 2 7 (.slice A1 32 c1) rfl rfl ?_
 refine rEnd 3 rfl (nxt (wp_seq (wp_seq (reg ?_))))
 refine rP 0 48 (.slice A1 32 c1) rfl rfl ?_
 refine rP 1 49 (.int .i64 32) rfl rfl ?_
 refine rP 2 50 (.int .i64 0) rfl rfl ?_
 refine rQ 3 51 _ rfl rfl (qint64 (n := 9223372036854775807 - 0) (z := 9223372036854775807) (by omega) (by omega) (by omega)) ?_
 refine rQ 4 52 _ rfl rfl (qboolF (b := decide ((32 : Int) > (9223372036854775807 : Int))) (decide_eq_false (by decide))) ?_
 refine rEnd 5 rfl (nxt (wp_cond_false (by kernel_rfl) (wp_skip (nxt (reg ?_)))))
 refine rP 0 54 (.int .i64 0) rfl rfl ?_
 refine rP 1 55 (.slice A1 32 c1) rfl rfl ?_
 refine rP 2 56 (.int .i64 32) rfl rfl ?_
 refine rQ 3 57 _ rfl rfl (qint64 (n := 0 + 32) (z := 32) (by omega) (by omega) (by omega)) ?_
 refine rP 4 5 (.int .i64 32) rfl rfl ?_
 refine rEnd 5 rfl (inN (nxt (reg ?_)))
 refine rQ 0 58 _ rfl rfl (qint64 (n := 0 + 1) (z := 1) (by omega) (by omega) (by omega)) ?_
 refine rP 1 44 (.int .i64 1) rfl rfl ?_
 refine rEnd 2 rfl (nxt (Wk.rdS (wp_seq (reg ?_))))
 refine rQ 0 45 _ rfl rfl (qboolT (b := decide ((1 : Int) < (4 : Int))) (decide_eq_true (by decide))) ?_
 refine rEnd 1 rfl (nxt (wp_seq (wp_cond_true (by kernel_rfl) (wp_skip (nxt (wp_seq (wp_block (wp_seq (reg ?_)))))))))
 refine rQ 0 46 (.pointer (some ⟨gp, 1, none⟩)) rfl rfl (index_sl 83 38 (.tmp 42) (.tmp 44) rfl Tryd.underlying83 1 (by kernel_rfl) gp 0 4 4 1 .i64 (by kernel_rfl) (by kernel_rfl) (by omega)) ?_
 refine rQ 1 47 _ rfl rfl (load1 38 (.tmp 46) rfl (by kernel_rfl) ⟨gp, 1, none⟩ (by kernel_rfl) (.slice A2 32 c2) ((cell_of_row _ _ 1 _ _ _ hp).trans rfl)) ?_
 refine rP 2 7 (.slice A2 32 c2) rfl rfl ?_
 refine rEnd 3 rfl (nxt (wp_seq (wp_seq (reg ?_))))
 refine rP 0 48 (.slice A2 32 c2) rfl rfl ?_
 refine rP 1 49 (.int .i64 32) rfl rfl ?_
 refine rP 2 50 (.int .i64 32) rfl rfl ?_
 refine rQ 3 51 _ rfl rfl (qint64 (n := 9223372036854775807 - 32) (z := 9223372036854775775) (by omega) (by omega) (by omega)) ?_
 refine rQ 4 52 _ rfl rfl (qboolF (b := decide ((32 : Int) > (9223372036854775775 : Int))) (decide_eq_false (by decide))) ?_
 refine rEnd 5 rfl (nxt (wp_cond_false (by kernel_rfl) (wp_skip (nxt (reg ?_)))))
 refine rP 0 54 (.int .i64 32) rfl rfl ?_
 refine rP 1 55 (.slice A2 32 c2) rfl rfl ?_
 refine rP 2 56 (.int .i64 32) rfl rfl ?_
 refine rQ 3 57 _ rfl rfl (qint64 (n := 32 + 32) (z := 64) (by omega) (by omega) (by omega)) ?_
 refine rP 4 5 (.int .i64 64) rfl rfl ?_
 refine rEnd 5 rfl (inN (nxt (reg ?_)))
 refine rQ 0 58 _ rfl rfl (qint64 (n := 1 + 1) (z := 2) (by omega) (by omega) (by omega)) ?_
 refine rP 1 44 (.int .i64 2) rfl rfl ?_
 refine rEnd 2 rfl (nxt (Wk.rdS (wp_seq (reg ?_))))
 refine rQ 0 45 _ rfl rfl (qboolT (b := decide ((2 : Int) < (4 : Int))) (decide_eq_true (by decide))) ?_
 refine rEnd 1 rfl (nxt (wp_seq (wp_cond_true (by kernel_rfl) (wp_skip (nxt (wp_seq (wp_block (wp_seq (reg ?_)))))))))
 refine rQ 0 46 (.pointer (some ⟨gp, 2, none⟩)) rfl rfl (index_sl 83 38 (.tmp 42) (.tmp 44) rfl Tryd.underlying83 1 (by kernel_rfl) gp 0 4 4 2 .i64 (by kernel_rfl) (by kernel_rfl) (by omega)) ?_
 refine rQ 1 47 _ rfl rfl (load1 38 (.tmp 46) rfl (by kernel_rfl) ⟨gp, 2, none⟩ (by kernel_rfl) (.slice A3 8 c3) ((cell_of_row _ _ 2 _ _ _ hp).trans rfl)) ?_
 refine rP 2 7 (.slice A3 8 c3) rfl rfl ?_
 refine rEnd 3 rfl (nxt (wp_seq (wp_seq (reg ?_))))
 refine rP 0 48 (.slice A3 8 c3) rfl rfl ?_
 refine rP 1 49 (.int .i64 8) rfl rfl ?_
 refine rP 2 50 (.int .i64 64) rfl rfl ?_
 refine rQ 3 51 _ rfl rfl (qint64 (n := 9223372036854775807 - 64) (z := 9223372036854775743) (by omega) (by omega) (by omega)) ?_
 refine rQ 4 52 _ rfl rfl (qboolF (b := decide ((8 : Int) > (9223372036854775743 : Int))) (decide_eq_false (by decide))) ?_
 refine rEnd 5 rfl (nxt (wp_cond_false (by kernel_rfl) (wp_skip (nxt (reg ?_)))))
 refine rP 0 54 (.int .i64 64) rfl rfl ?_
 refine rP 1 55 (.slice A3 8 c3) rfl rfl ?_
 refine rP 2 56 (.int .i64 8) rfl rfl ?_
 refine rQ 3 57 _ rfl rfl (qint64 (n := 64 + 8) (z := 72) (by omega) (by omega) (by omega)) ?_
 refine rP 4 5 (.int .i64 72) rfl rfl ?_
 refine rEnd 5 rfl (inN (nxt (reg ?_)))
 refine rQ 0 58 _ rfl rfl (qint64 (n := 2 + 1) (z := 3) (by omega) (by omega) (by omega)) ?_
 refine rP 1 44 (.int .i64 3) rfl rfl ?_
 refine rEnd 2 rfl (nxt (Wk.rdS (wp_seq (reg ?_))))
 refine rQ 0 45 _ rfl rfl (qboolT (b := decide ((3 : Int) < (4 : Int))) (decide_eq_true (by decide))) ?_
 refine rEnd 1 rfl (nxt (wp_seq (wp_cond_true (by kernel_rfl) (wp_skip (nxt (wp_seq (wp_block (wp_seq (reg ?_)))))))))
 refine rQ 0 46 (.pointer (some ⟨gp, 3, none⟩)) rfl rfl (index_sl 83 38 (.tmp 42) (.tmp 44) rfl Tryd.underlying83 1 (by kernel_rfl) gp 0 4 4 3 .i64 (by kernel_rfl) (by kernel_rfl) (by omega)) ?_
 refine rQ 1 47 _ rfl rfl (load1 38 (.tmp 46) rfl (by kernel_rfl) ⟨gp, 3, none⟩ (by kernel_rfl) (.slice A4 32 c4) ((cell_of_row _ _ 3 _ _ _ hp).trans rfl)) ?_
 refine rP 2 7 (.slice A4 32 c4) rfl rfl ?_
 refine rEnd 3 rfl (nxt (wp_seq (wp_seq (reg ?_))))
 refine rP 0 48 (.slice A4 32 c4) rfl rfl ?_
 refine rP 1 49 (.int .i64 32) rfl rfl ?_
 refine rP 2 50 (.int .i64 72) rfl rfl ?_
 refine rQ 3 51 _ rfl rfl (qint64 (n := 9223372036854775807 - 72) (z := 9223372036854775735) (by omega) (by omega) (by omega)) ?_
 refine rQ 4 52 _ rfl rfl (qboolF (b := decide ((32 : Int) > (9223372036854775735 : Int))) (decide_eq_false (by decide))) ?_
 refine rEnd 5 rfl (nxt (wp_cond_false (by kernel_rfl) (wp_skip (nxt (reg ?_)))))
 refine rP 0 54 (.int .i64 72) rfl rfl ?_
 refine rP 1 55 (.slice A4 32 c4) rfl rfl ?_
 refine rP 2 56 (.int .i64 32) rfl rfl ?_
 refine rQ 3 57 _ rfl rfl (qint64 (n := 72 + 32) (z := 104) (by omega) (by omega) (by omega)) ?_
 refine rP 4 5 (.int .i64 104) rfl rfl ?_
 refine rEnd 5 rfl (inN (nxt (reg ?_)))
 refine rQ 0 58 _ rfl rfl (qint64 (n := 3 + 1) (z := 4) (by omega) (by omega) (by omega)) ?_
 refine rP 1 44 (.int .i64 4) rfl rfl ?_
 refine rEnd 2 rfl (nxt (Wk.rdS (wp_seq (reg ?_))))
 refine rQ 0 45 _ rfl rfl (qboolF (b := decide ((4 : Int) < (4 : Int))) (decide_eq_false (by decide))) ?_
 refine rEnd 1 rfl (nxt (wp_seq (wp_cond_false (by kernel_rfl) (wp_exit (thX (thX (inX (nxt (wp_seq (reg ?_))))))))))
 refine rP 0 59 (.int .i64 104) rfl rfl ?_
 refine rX 1 60 rfl rfl (Mur.run_nz Tryd.f91.params 38 5 Tryd.func91 (by kernel_rfl) (by kernel_rfl) (by kernel_rfl) (by kernel_rfl) Tryd.underlying38 (.tmp 59) _ rfl 104 (by kernel_rfl) (by omega)) ?_
 rintro _ W1 ⟨cs1, rfl, hb1, hl1, ch1, sz1⟩
 have zz1 := ch1.size
 refine rP 2 61 (.int .i64 104) rfl rfl ?_
 refine rP 3 62 (.int .i64 104) rfl rfl ?_
 refine rQ 4 63 (.slice (some ⟨w.heap.size, 0, none⟩) 104 104) rfl rfl (Mur.run_cut3 38 (.tmp 60) none (.tmp 61) (.tmp 62) rfl 5 Tryd.underlying38 (by kernel_rfl) w.heap.size 0 104 cs1.length 0 104 104 104 (by kernel_rfl) (.inr ⟨rfl, rfl⟩) (by kernel_rfl) (by kernel_rfl) rfl rfl (by omega) (by omega)) ?_
 refine rP 5 8 (.slice (some ⟨w.heap.size, 0, none⟩) 104 104) rfl rfl ?_
 refine rEnd 6 rfl (nxt (wp_seq (reg ?_)))
 refine rP 0 64 (.slice (some ⟨w.heap.size, 0, none⟩) 104 104) rfl rfl ?_
 refine rP 1 65 (.slice (some ⟨gp, 0, none⟩) 4 4) rfl rfl ?_
 refine rQ 2 66 (.pointer (some ⟨gp, 0, none⟩)) rfl rfl (index_sl 83 38 (.tmp 65) (.const (.int .i64 0)) rfl Tryd.underlying83 1 (by kernel_rfl) gp 0 4 4 0 .i64 (by kernel_rfl) (by kernel_rfl) (by omega)) ?_
 have kk1 : Chg [] w W1 := Chg.step ((Chg.refl _).more (by simp)) ch1 trivial
 refine rQ 3 67 _ rfl rfl (load1 38 (.tmp 66) rfl (by kernel_rfl) ⟨gp, 0, none⟩ (by kernel_rfl) (.slice A1 32 c1) ((cell_of_row _ _ 0 _ _ _ (Chg.hp kk1 hp trivial)).trans rfl)) ?_
 refine rX 4 68 rfl rfl (Mur.copy_mid (.tmp 64) (.tmp 67) 38 38 rfl 5 Tryd.underlying38 (by kernel_rfl) w.heap.size 0 104 104 (by kernel_rfl) A1 32 c1 (by kernel_rfl) 5 (b8s ([]) ++ cs1.drop 0) k hb1 (Mur.byt_chg hy1 kk1 (fun g off e hl => trivial)) (by omega) (by omega) (by have hfl_ := Mur.fill_len (cs := cs1) (acc := []) (p := 0) (rfl : ([] : List UInt8).length = 0) (by omega); omega) (b8s (k) ++ cs1.drop 32) (Mur.fill_step (rfl : ([] : List UInt8).length = 0) hy1.1 rfl (by omega))) ?_
 rintro _ W2 ⟨rfl, hb2, ch2⟩
 have zz2 := ch2.size
 refine rP 5 9 (.int .i64 32) rfl rfl ?_
 refine rEnd 6 rfl (nxt (wp_seq (wp_seq (reg ?_))))
 refine rP 0 69 (.slice (some ⟨gp, 0, none⟩) 4 4) rfl rfl ?_
 refine rQ 1 70 (.slice (some ⟨gp, 1, none⟩) 3 3) rfl rfl (Mur.run_from_at 83 (.tmp 69) (.const (.int .i64 1)) rfl 38 Tryd.underlying83 (by kernel_rfl) gp 0 4 4 1 3 (by kernel_rfl) (by kernel_rfl) (by omega) (by omega) rfl) ?_
 refine rP 2 71 (.int .i64 3) rfl rfl ?_
 refine rP 3 72 (.int .i64 0) rfl rfl ?_
 refine rEnd 4 rfl (nxt (wp_block ?_))
 refine Wk.loopN 4 ?_
 refine Wk.rdS (wp_seq (reg ?_))
 refine rQ 0 73 _ rfl rfl (qboolT (b := decide ((0 : Int) < (3 : Int))) (decide_eq_true (by decide))) ?_
 refine rEnd 1 rfl (nxt (wp_seq (wp_cond_true (by kernel_rfl) (wp_skip (nxt (wp_seq (wp_block (wp_seq (reg ?_)))))))))
 refine rQ 0 74 (.pointer (some ⟨gp, 1, none⟩)) rfl rfl (index_sl 83 38 (.tmp 70) (.tmp 72) rfl Tryd.underlying83 1 (by kernel_rfl) gp 1 3 3 0 .i64 (by kernel_rfl) (by kernel_rfl) (by omega)) ?_
 have kk2 := Chg.step kk1 ch2 ⟨.inr (by omega), trivial⟩
 refine rQ 1 75 _ rfl rfl (load1 38 (.tmp 74) rfl (by kernel_rfl) ⟨gp, 1, none⟩ (by kernel_rfl) (.slice A2 32 c2) ((cell_of_row _ _ 1 _ _ _ (Chg.hp kk2 hp trivial)).trans rfl)) ?_
 refine rP 2 11 (.slice A2 32 c2) rfl rfl ?_
 refine rEnd 3 rfl (nxt (wp_seq (reg ?_)))
 refine rP 0 76 (.int .i64 32) rfl rfl ?_
 refine rP 1 77 (.slice (some ⟨w.heap.size, 0, none⟩) 104 104) rfl rfl ?_
 refine rP 2 78 (.int .i64 32) rfl rfl ?_
 refine rQ 3 79 (.slice (some ⟨w.heap.size, 32, none⟩) 72 72) rfl rfl (Mur.run_from_at 38 (.tmp 77) (.tmp 78) rfl 5 Tryd.underlying38 (by kernel_rfl) w.heap.size 0 104 104 32 72 (by kernel_rfl) (by kernel_rfl) (by omega) (by omega) rfl) ?_
 refine rP 4 80 (.slice none 0 0) rfl rfl ?_
 refine rQ 5 81 (.int .i64 0) rfl rfl (Mur.copy_none (.tmp 79) (.tmp 80) 38 38 rfl 5 Tryd.underlying38 (by kernel_rfl) ⟨w.heap.size, 32, none⟩ 72 72 (by kernel_rfl) (by kernel_rfl)) ?_
 refine rQ 6 82 _ rfl rfl (qint64 (n := 32 + 0) (z := 32) (by omega) (by omega) (by omega)) ?_
 refine rP 7 9 (.int .i64 32) rfl rfl ?_
 refine rEnd 8 rfl (nxt (reg ?_))
 refine rP 0 83 (.int .i64 32) rfl rfl ?_
 refine rP 1 84 (.slice (some ⟨w.heap.size, 0, none⟩) 104 104) rfl rfl ?_
 refine rP 2 85 (.int .i64 32) rfl rfl ?_
 refine rQ 3 86 (.slice (some ⟨w.heap.size, 32, none⟩) 72 72) rfl rfl (Mur.run_from_at 38 (.tmp 84) (.tmp 85) rfl 5 Tryd.underlying38 (by kernel_rfl) w.heap.size 0 104 104 32 72 (by kernel_rfl) (by kernel_rfl) (by omega) (by omega) rfl) ?_
 refine rP 4 87 (.slice A2 32 c2) rfl rfl ?_
 refine rX 5 88 rfl rfl (Mur.copy_mid (.tmp 86) (.tmp 87) 38 38 rfl 5 Tryd.underlying38 (by kernel_rfl) w.heap.size 32 72 72 (by kernel_rfl) A2 32 c2 (by kernel_rfl) 5 (b8s (k) ++ cs1.drop 32) r hb2 (Mur.byt_chg hy2 kk2 (fun g off e hl => trivial)) (by omega) (by omega) (by have hfl_ := Mur.fill_len (cs := cs1) (acc := k) (p := 32) hy1.1 (by omega); omega) (b8s (k ++ r) ++ cs1.drop 64) (Mur.fill_step hy1.1 hy2.1 rfl (by omega))) ?_
 rintro _ W3 ⟨rfl, hb3, ch3⟩
 have zz3 := ch3.size
 refine rQ 6 89 _ rfl rfl (qint64 (n := 32 + 32) (z := 64) (by omega) (by omega) (by omega)) ?_
 refine rP 7 9 (.int .i64 64) rfl rfl ?_
 refine rEnd 8 rfl (inN (nxt (reg ?_)))
 refine rQ 0 90 _ rfl rfl (qint64 (n := 0 + 1) (z := 1) (by omega) (by omega) (by omega)) ?_
 refine rP 1 72 (.int .i64 1) rfl rfl ?_
 refine rEnd 2 rfl (nxt (Wk.rdS (wp_seq (reg ?_))))
 refine rQ 0 73 _ rfl rfl (qboolT (b := decide ((1 : Int) < (3 : Int))) (decide_eq_true (by decide))) ?_
 refine rEnd 1 rfl (nxt (wp_seq (wp_cond_true (by kernel_rfl) (wp_skip (nxt (wp_seq (wp_block (wp_seq (reg ?_)))))))))
 refine rQ 0 74 (.pointer (some ⟨gp, 2, none⟩)) rfl rfl (index_sl 83 38 (.tmp 70) (.tmp 72) rfl Tryd.underlying83 1 (by kernel_rfl) gp 1 3 3 1 .i64 (by kernel_rfl) (by kernel_rfl) (by omega)) ?_
 have kk3 := Chg.step kk2 ch3 ⟨.inr (by omega), trivial⟩
 refine rQ 1 75 _ rfl rfl (load1 38 (.tmp 74) rfl (by kernel_rfl) ⟨gp, 2, none⟩ (by kernel_rfl) (.slice A3 8 c3) ((cell_of_row _ _ 2 _ _ _ (Chg.hp kk3 hp trivial)).trans rfl)) ?_
 refine rP 2 11 (.slice A3 8 c3) rfl rfl ?_
 refine rEnd 3 rfl (nxt (wp_seq (reg ?_)))
 refine rP 0 76 (.int .i64 64) rfl rfl ?_
 refine rP 1 77 (.slice (some ⟨w.heap.size, 0, none⟩) 104 104) rfl rfl ?_
 refine rP 2 78 (.int .i64 64) rfl rfl ?_
 refine rQ 3 79 (.slice (some ⟨w.heap.size, 64, none⟩) 40 40) rfl rfl (Mur.run_from_at 38 (.tmp 77) (.tmp 78) rfl 5 Tryd.underlying38 (by kernel_rfl) w.heap.size 0 104 104 64 40 (by kernel_rfl) (by kernel_rfl) (by omega) (by omega) rfl) ?_
 refine rP 4 80 (.slice none 0 0) rfl rfl ?_
 refine rQ 5 81 (.int .i64 0) rfl rfl (Mur.copy_none (.tmp 79) (.tmp 80) 38 38 rfl 5 Tryd.underlying38 (by kernel_rfl) ⟨w.heap.size, 64, none⟩ 40 40 (by kernel_rfl) (by kernel_rfl)) ?_
 refine rQ 6 82 _ rfl rfl (qint64 (n := 64 + 0) (z := 64) (by omega) (by omega) (by omega)) ?_
 refine rP 7 9 (.int .i64 64) rfl rfl ?_
 refine rEnd 8 rfl (nxt (reg ?_))
 refine rP 0 83 (.int .i64 64) rfl rfl ?_
 refine rP 1 84 (.slice (some ⟨w.heap.size, 0, none⟩) 104 104) rfl rfl ?_
 refine rP 2 85 (.int .i64 64) rfl rfl ?_
 refine rQ 3 86 (.slice (some ⟨w.heap.size, 64, none⟩) 40 40) rfl rfl (Mur.run_from_at 38 (.tmp 84) (.tmp 85) rfl 5 Tryd.underlying38 (by kernel_rfl) w.heap.size 0 104 104 64 40 (by kernel_rfl) (by kernel_rfl) (by omega) (by omega) rfl) ?_
 refine rP 4 87 (.slice A3 8 c3) rfl rfl ?_
 refine rX 5 88 rfl rfl (Mur.copy_mid (.tmp 86) (.tmp 87) 38 38 rfl 5 Tryd.underlying38 (by kernel_rfl) w.heap.size 64 40 40 (by kernel_rfl) A3 8 c3 (by kernel_rfl) 5 (b8s (k ++ r) ++ cs1.drop 64) E hb3 (Mur.byt_chg hy3 kk3 (fun g off e hl => trivial)) (by omega) (by omega) (by have hfl_ := Mur.fill_len (cs := cs1) (acc := k ++ r) (p := 64) (by simp only [List.length_append]; have := hy1.1; have := hy2.1; have := hy3.1; omega) (by omega); omega) (b8s ((k ++ r) ++ E) ++ cs1.drop 72) (Mur.fill_step (by simp only [List.length_append]; have := hy1.1; have := hy2.1; have := hy3.1; omega) hy3.1 rfl (by omega))) ?_
 rintro _ W4 ⟨rfl, hb4, ch4⟩
 have zz4 := ch4.size
 refine rQ 6 89 _ rfl rfl (qint64 (n := 64 + 8) (z := 72) (by omega) (by omega) (by omega)) ?_
 refine rP 7 9 (.int .i64 72) rfl rfl ?_
 refine rEnd 8 rfl (inN (nxt (reg ?_)))
 refine rQ 0 90 _ rfl rfl (qint64 (n := 1 + 1) (z := 2) (by omega) (by omega) (by omega)) ?_
 refine rP 1 72 (.int .i64 2) rfl rfl ?_
 refine rEnd 2 rfl (nxt (Wk.rdS (wp_seq (reg ?_))))
 refine rQ 0 73 _ rfl rfl (qboolT (b := decide ((2 : Int) < (3 : Int))) (decide_eq_true (by decide))) ?_
 refine rEnd 1 rfl (nxt (wp_seq (wp_cond_true (by kernel_rfl) (wp_skip (nxt (wp_seq (wp_block (wp_seq (reg ?_)))))))))
 refine rQ 0 74 (.pointer (some ⟨gp, 3, none⟩)) rfl rfl (index_sl 83 38 (.tmp 70) (.tmp 72) rfl Tryd.underlying83 1 (by kernel_rfl) gp 1 3 3 2 .i64 (by kernel_rfl) (by kernel_rfl) (by omega)) ?_
 have kk4 := Chg.step kk3 ch4 ⟨.inr (by omega), trivial⟩
 refine rQ 1 75 _ rfl rfl (load1 38 (.tmp 74) rfl (by kernel_rfl) ⟨gp, 3, none⟩ (by kernel_rfl) (.slice A4 32 c4) ((cell_of_row _ _ 3 _ _ _ (Chg.hp kk4 hp trivial)).trans rfl)) ?_
 refine rP 2 11 (.slice A4 32 c4) rfl rfl ?_
 refine rEnd 3 rfl (nxt (wp_seq (reg ?_)))
 refine rP 0 76 (.int .i64 72) rfl rfl ?_
 refine rP 1 77 (.slice (some ⟨w.heap.size, 0, none⟩) 104 104) rfl rfl ?_
 refine rP 2 78 (.int .i64 72) rfl rfl ?_
 refine rQ 3 79 (.slice (some ⟨w.heap.size, 72, none⟩) 32 32) rfl rfl (Mur.run_from_at 38 (.tmp 77) (.tmp 78) rfl 5 Tryd.underlying38 (by kernel_rfl) w.heap.size 0 104 104 72 32 (by kernel_rfl) (by kernel_rfl) (by omega) (by omega) rfl) ?_
 refine rP 4 80 (.slice none 0 0) rfl rfl ?_
 refine rQ 5 81 (.int .i64 0) rfl rfl (Mur.copy_none (.tmp 79) (.tmp 80) 38 38 rfl 5 Tryd.underlying38 (by kernel_rfl) ⟨w.heap.size, 72, none⟩ 32 32 (by kernel_rfl) (by kernel_rfl)) ?_
 refine rQ 6 82 _ rfl rfl (qint64 (n := 72 + 0) (z := 72) (by omega) (by omega) (by omega)) ?_
 refine rP 7 9 (.int .i64 72) rfl rfl ?_
 refine rEnd 8 rfl (nxt (reg ?_))
 refine rP 0 83 (.int .i64 72) rfl rfl ?_
 refine rP 1 84 (.slice (some ⟨w.heap.size, 0, none⟩) 104 104) rfl rfl ?_
 refine rP 2 85 (.int .i64 72) rfl rfl ?_
 refine rQ 3 86 (.slice (some ⟨w.heap.size, 72, none⟩) 32 32) rfl rfl (Mur.run_from_at 38 (.tmp 84) (.tmp 85) rfl 5 Tryd.underlying38 (by kernel_rfl) w.heap.size 0 104 104 72 32 (by kernel_rfl) (by kernel_rfl) (by omega) (by omega) rfl) ?_
 refine rP 4 87 (.slice A4 32 c4) rfl rfl ?_
 refine rX 5 88 rfl rfl (Mur.copy_mid (.tmp 86) (.tmp 87) 38 38 rfl 5 Tryd.underlying38 (by kernel_rfl) w.heap.size 72 32 32 (by kernel_rfl) A4 32 c4 (by kernel_rfl) 5 (b8s ((k ++ r) ++ E) ++ cs1.drop 72) t hb4 (Mur.byt_chg hy4 kk4 (fun g off e hl => trivial)) (by omega) (by omega) (by have hfl_ := Mur.fill_len (cs := cs1) (acc := (k ++ r) ++ E) (p := 72) (by simp only [List.length_append]; have := hy1.1; have := hy2.1; have := hy3.1; omega) (by omega); omega) (b8s (((k ++ r) ++ E) ++ t) ++ cs1.drop 104) (Mur.fill_step (by simp only [List.length_append]; have := hy1.1; have := hy2.1; have := hy3.1; omega) hy4.1 rfl (by omega))) ?_
 rintro _ W5 ⟨rfl, hb5, ch5⟩
 have zz5 := ch5.size
 refine rQ 6 89 _ rfl rfl (qint64 (n := 72 + 32) (z := 104) (by omega) (by omega) (by omega)) ?_
 refine rP 7 9 (.int .i64 104) rfl rfl ?_
 refine rEnd 8 rfl (inN (nxt (reg ?_)))
 refine rQ 0 90 _ rfl rfl (qint64 (n := 2 + 1) (z := 3) (by omega) (by omega) (by omega)) ?_
 refine rP 1 72 (.int .i64 3) rfl rfl ?_
 refine rEnd 2 rfl (nxt (Wk.rdS (wp_seq (reg ?_))))
 refine rQ 0 73 _ rfl rfl (qboolF (b := decide ((3 : Int) < (3 : Int))) (decide_eq_false (by decide))) ?_
 refine rEnd 1 rfl (nxt (wp_seq (wp_cond_false (by kernel_rfl) (wp_exit (thX (thX (inX (nxt (wp_seq (reg ?_))))))))))
 refine rP 0 91 (.slice (some ⟨w.heap.size, 0, none⟩) 104 104) rfl rfl ?_
 refine rP 1 4 (.slice (some ⟨w.heap.size, 0, none⟩) 104 104) rfl rfl ?_
 refine rEnd 2 rfl (nxt (wp_ret ?_))
 have kk5 := Chg.step kk4 ch5 ⟨.inr (by omega), trivial⟩
 refine Wk.ret (.slice (some ⟨w.heap.size, 0, none⟩) 104 104) rfl (by kernel_rfl) ?_
 exact ⟨w.heap.size, rfl, Mur.byt_fill hb5 (by simp only [List.length_append]; have := hy1.1; have := hy2.1; have := hy3.1; have := hy4.1; omega), ⟨by omega, by omega⟩, kk5⟩
end Go.Proofs.YtfhneademopciaaDoor
namespace Go.Proofs.YtfhneademopciaaDoor
open Go.RowKit Wk
open Mur (b8s Byt Own8 Seg Segs flat cutA attC)
set_option maxRecDepth 100000
set_option maxHeartbeats 4000000
theorem raw_any (k r t : List UInt8) (n : Int) (hk : k.length = 32) (hr : r.length = 32) (ht : t.length = 32) (w : World) : Calls Tryd.prog 61 #[.agg (attC k r n t).toArray] w fun e w' => ∃ q cq B, Hid (B = Mur.rawL k r n t) ∧ e = .returned (.slice (some ⟨q, 0, none⟩) 104 cq) ∧ Byt w' (some ⟨q, 0, none⟩) 104 B ∧ (w.heap.size ≤ q ∧ q < w'.heap.size) ∧ (104 ≤ cq ∧ cq ≤ 9223372036854775807) ∧ Chg [] w w' := by
 refine calls_of_wp Tryd.func61 rfl ?_
 refine wp_seq (reg ?_)
 refine rX 0 1 rfl rfl (new_ex (.pointer (some ⟨w.heap.size, 0, none⟩)) ((Mur.attC k r n t).toArray) 32 (by kernel_rfl)) ?_
 rintro _ W1 ⟨rfl, hb1, ch1, sz1⟩
 have zz1 := ch1.size
 refine rP 1 2 (.slice none 0 0) rfl rfl ?_
 refine rEnd 2 rfl (nxt (wp_seq (reg ?_)))
 refine rP 0 4 (.pointer (some ⟨w.heap.size, 64, none⟩)) rfl rfl ?_
 refine rQ 1 5 _ rfl rfl (load1 3 (.tmp 4) rfl (by kernel_rfl) ⟨w.heap.size, 64, none⟩ (by kernel_rfl) (.int .i64 n) (Mur.att_len hk hr hb1)) ?_
 refine rC 2 6 80 [.tmp 5] #[3] [.int .i64 n] rfl rfl rfl ?_
 refine (eight_any n W1).mono ?_
 rintro _ W2 ⟨e8_1, hd1, hdl1, rfl, ch2⟩
 have zz2 := ch2.size
 refine ⟨_, rfl, ?_⟩
 refine rX 3 3 rfl rfl (new_ex (.pointer (some ⟨W2.heap.size, 0, none⟩)) #[.int .u8 0, .int .u8 0, .int .u8 0, .int .u8 0, .int .u8 0, .int .u8 0, .int .u8 0, .int .u8 0] 127 (by kernel_rfl)) ?_
 rintro _ W3 ⟨rfl, hb2, ch3, sz2⟩
 have zz3 := ch3.size
 refine rY 4 rfl rfl (Mur.storeAll 127 (.tmp 3) (.tmp 6) rfl W2.heap.size (by kernel_rfl) e8_1 8 hdl1 (by kernel_rfl) (by kernel_rfl) 127 #[.int .u8 0, .int .u8 0, .int .u8 0, .int .u8 0, .int .u8 0, .int .u8 0, .int .u8 0, .int .u8 0] hb2 rfl) ?_
 rintro W4 ⟨hb3, ch4⟩
 have zz4 := ch4.size
 refine rEnd 5 rfl (nxt (wp_seq ?_))
 refine dReg ([]) (by kernel_rfl) ?_
 intro W5 ch5 sz3
 have zz5 := ch5.size
 have sS1 : Chg ([]) W5 W5 := (Chg.refl _).more (by simp)
 refine dV 0 7 (.pointer (some ⟨w.heap.size, 0, none⟩)) rfl rfl (fun _ _ => by kernel_rfl) sS1 ?_
 refine dV 1 8 (.slice (some ⟨w.heap.size, 0, none⟩) 32 32) rfl rfl (fun w' hw' => (Mur.arr_slice 30 5 (.tmp 7) 32 rfl Tryd.underlying30 (by kernel_rfl) w.heap.size (by kernel_rfl))) sS1 ?_
 refine dV 2 9 (.pointer (some ⟨w.heap.size, 32, none⟩)) rfl rfl (fun _ _ => by kernel_rfl) sS1 ?_
 refine dV 3 10 (.slice (some ⟨w.heap.size, 32, none⟩) 32 32) rfl rfl (fun w' hw' => (Mur.arr_slice_at 30 5 (.tmp 9) 32 rfl Tryd.underlying30 (by kernel_rfl) w.heap.size 32 (by kernel_rfl))) sS1 ?_
 refine dV 4 11 (.slice (some ⟨W2.heap.size, 0, none⟩) 8 8) rfl rfl (fun w' hw' => (Mur.arr_slice 127 5 (.tmp 3) 8 rfl Tryd.underlying127 (by kernel_rfl) W2.heap.size (by kernel_rfl))) sS1 ?_
 refine dV 5 12 (.pointer (some ⟨w.heap.size, 65, none⟩)) rfl rfl (fun _ _ => by kernel_rfl) sS1 ?_
 refine dV 6 13 (.slice (some ⟨w.heap.size, 65, none⟩) 32 32) rfl rfl (fun w' hw' => (Mur.arr_slice_at 30 5 (.tmp 12) 32 rfl Tryd.underlying30 (by kernel_rfl) w.heap.size 65 (by kernel_rfl))) sS1 ?_
 refine dOp 7 (by kernel_rfl) ?_
 refine oEx (some 14) _ rfl rfl (by kernel_rfl) (new_ex (.slice (some ⟨W5.heap.size, 0, none⟩) 4 4) #[.slice (some ⟨w.heap.size, 0, none⟩) 32 32, .slice (some ⟨w.heap.size, 32, none⟩) 32 32, .slice (some ⟨W2.heap.size, 0, none⟩) 8 8, .slice (some ⟨w.heap.size, 65, none⟩) 32 32] 38 (by kernel_rfl)) ?_
 rintro _ W6 ⟨rfl, hb4, ch6, sz4⟩
 have zz6 := ch6.size
 have sS2 := Chg.step sS1 ch6 trivial
 refine ⟨sS2, ?_⟩
 refine dOp 8 (by kernel_rfl) ?_
 refine oCall (some 15) 81 [.tmp 14, .const (.slice none 0 0)] #[83, 38] [.slice (some ⟨W5.heap.size, 0, none⟩) 4 4, .slice none 0 0] rfl rfl (by kernel_rfl) rfl (by kernel_rfl) (by kernel_rfl) ?_
 refine (Join4_any W5.heap.size 38 (0, 0) (some ⟨w.heap.size, 0, none⟩) (some ⟨w.heap.size, 32, none⟩) (some ⟨W2.heap.size, 0, none⟩) (some ⟨w.heap.size, 65, none⟩) 32 32 8 32 k r e8_1 t W6 hb4 (Mur.byt_rng (Mur.att_key (Chg.hp ch6 (Chg.hp ch5 (Chg.hp ch4 (Chg.hp ch3 (Chg.hp ch2 hb1 trivial) trivial) ⟨by omega, trivial⟩) trivial) trivial)) hk) (Mur.byt_rng (Mur.att_root hk (Chg.hp ch6 (Chg.hp ch5 (Chg.hp ch4 (Chg.hp ch3 (Chg.hp ch2 hb1 trivial) trivial) ⟨by omega, trivial⟩) trivial) trivial)) hr) (Mur.byt_blk e8_1 hdl1 (Chg.hp ch6 (Chg.hp ch5 hb3 trivial) trivial)) (Mur.byt_rng (Mur.att_tag hk hr (Chg.hp ch6 (Chg.hp ch5 (Chg.hp ch4 (Chg.hp ch3 (Chg.hp ch2 hb1 trivial) trivial) ⟨by omega, trivial⟩) trivial) trivial)) ht)).mono ?_
 rintro _ W7 ⟨qj1, rfl, hbj1, hq1, ch7⟩
 have zz7 := ch7.size
 have hBt1 : ∀ g off, (some ⟨qj1, 0, none⟩ : Option Addr) = some ⟨g, off, none⟩ → W6.heap.size ≤ g ∧ g < W7.heap.size := fun g off e => by cases e; exact hq1
 have sS3 := Chg.step sS2 ch7 trivial
 refine ⟨_, rfl, sS3, ?_⟩
 refine dV 9 2 (.slice (some ⟨qj1, 0, none⟩) 104 104) rfl rfl (fun _ _ => by kernel_rfl) sS3 ?_
 refine dEnd (by kernel_rfl) (nxt (wp_ret ?_))
 have kk1 : Chg [] w W1 := Chg.step ((Chg.refl _).more (by simp)) ch1 trivial
 have kk2 := Chg.step kk1 ch2 trivial
 have kk3 := Chg.step kk2 ch3 trivial
 have kk4 := Chg.step kk3 ch4 ⟨.inr (by omega), trivial⟩
 have kk5 := Chg.step kk4 ch5 trivial
 have kk6 := Chg.step kk5 ch6 trivial
 have kk7 := Chg.step kk6 ch7 trivial
 refine Wk.ret (.slice (some ⟨qj1, 0, none⟩) 104 104) rfl (by kernel_rfl) ?_
 exact ⟨_, _, _, Go.Lib.hid (by rw [hd1.out]; rfl), rfl, hbj1, ⟨by omega, by omega⟩, ⟨by omega, by omega⟩, kk7⟩
theorem Rbytes_any (k r t : List UInt8) (n : Int) (hk : k.length = 32) (hr : r.length = 32) (ht : t.length = 32) (w : World) : Calls Tryd.prog 48 #[.agg (attC k r n t).toArray] w fun e w' => ∃ q cq B, Hid (B = Mur.rawL k r n t) ∧ e = .returned (.slice (some ⟨q, 0, none⟩) 104 cq) ∧ Byt w' (some ⟨q, 0, none⟩) 104 B ∧ (w.heap.size ≤ q ∧ q < w'.heap.size) ∧ (104 ≤ cq ∧ cq ≤ 9223372036854775807) ∧ Chg [] w w' := by
 refine calls_of_wp Tryd.func48 rfl ?_
 refine wp_seq (reg ?_)
 refine rX 0 1 rfl rfl (new_ex (.pointer (some ⟨w.heap.size, 0, none⟩)) ((Mur.attC k r n t).toArray) 32 (by kernel_rfl)) ?_
 rintro _ W1 ⟨rfl, hb1, ch1, sz1⟩
 have zz1 := ch1.size
 refine rP 1 2 (.slice none 0 0) rfl rfl ?_
 refine rEnd 2 rfl (nxt (wp_seq (reg ?_)))
 refine rP 0 3 (.slice none 0 0) rfl rfl ?_
 refine rEnd 1 rfl (nxt (wp_seq (reg ?_)))
 refine rP 0 4 (.slice none 0 0) rfl rfl ?_
 refine rP 1 5 (.pointer (some ⟨w.heap.size, 0, none⟩)) rfl rfl ?_
 refine rQ 2 6 (.slice (some ⟨w.heap.size, 0, none⟩) 32 32) rfl rfl (Mur.arr_slice 30 5 (.tmp 5) 32 rfl Tryd.underlying30 (by kernel_rfl) w.heap.size (by kernel_rfl)) ?_
 have ow1 := Mur.own8_nil W1 W1.heap.size 5
 refine rX 3 7 rfl rfl (Mur.append8 (.tmp 4) (.tmp 6) 38 5 rfl Tryd.underlying38 (by kernel_rfl) W1.heap.size none 0 0 ([]) (some ⟨w.heap.size, 0, none⟩) 32 32 k (by kernel_rfl) (by kernel_rfl) ow1.own (Mur.byt_rng (Mur.att_key hb1) hk) (fun h => by cases h) (by omega) (by omega) 32 (by omega) k rfl) ?_
 rintro _ W2 ⟨AA1, nn1, rfl, ow2, ch2, ha1⟩
 have zz2 := ch2.size
 have hq1 := ow2.nc
 have hq2 := ow2.cm
 refine rP 4 3 (.slice AA1 32 nn1) rfl rfl ?_
 refine rEnd 5 rfl (nxt (wp_seq (reg ?_)))
 refine rP 0 8 (.slice AA1 32 nn1) rfl rfl ?_
 refine rP 1 9 (.pointer (some ⟨w.heap.size, 32, none⟩)) rfl rfl ?_
 refine rQ 2 10 (.slice (some ⟨w.heap.size, 32, none⟩) 32 32) rfl rfl (Mur.arr_slice_at 30 5 (.tmp 9) 32 rfl Tryd.underlying30 (by kernel_rfl) w.heap.size 32 (by kernel_rfl)) ?_
 refine rX 3 11 rfl rfl (Mur.append8 (.tmp 8) (.tmp 10) 38 5 rfl Tryd.underlying38 (by kernel_rfl) W1.heap.size AA1 32 nn1 k (some ⟨w.heap.size, 32, none⟩) 32 32 r (by kernel_rfl) (by kernel_rfl) ow2.own (Mur.byt_rng (Mur.att_root hk (Chg.hp ch2 hb1 (off_blk (fun gz hgz => by have := ow1.lt gz hgz; omega)))) hr) (fun h => by cases h) (by omega) (by omega) 64 (by omega) (k ++ r) rfl) ?_
 rintro _ W3 ⟨AA2, nn2, rfl, ow3, ch3, ha2⟩
 have zz3 := ch3.size
 have hq3 := ow3.nc
 have hq4 := ow3.cm
 refine rP 4 3 (.slice AA2 64 nn2) rfl rfl ?_
 refine rEnd 5 rfl (nxt (wp_seq (reg ?_)))
 refine rP 0 12 (.slice AA2 64 nn2) rfl rfl ?_
 refine rP 1 13 (.pointer (some ⟨w.heap.size, 64, none⟩)) rfl rfl ?_
 refine rQ 2 14 _ rfl rfl (load1 3 (.tmp 13) rfl (by kernel_rfl) ⟨w.heap.size, 64, none⟩ (by kernel_rfl) (.int .i64 n) (Mur.att_len hk hr (Chg.hp ch3 (Chg.hp ch2 hb1 (off_blk (fun gz hgz => by have := ow1.lt gz hgz; omega))) (off_blk (fun gz hgz => by have := ow2.lt gz hgz; omega))))) ?_
 refine rC 3 15 71 [.tmp 14] #[3] [.int .i64 n] rfl rfl rfl ?_
 refine (Reight_any n W3).mono ?_
 rintro _ W4 ⟨qe1, EE1, hE1, rfl, hbe1, hq5, ch4⟩
 have zz4 := ch4.size
 have hBt1 : ∀ g off, (some ⟨qe1, 0, none⟩ : Option Addr) = some ⟨g, off, none⟩ → W3.heap.size ≤ g ∧ g < W4.heap.size := fun g off e => by cases e; exact hq5
 refine ⟨_, rfl, ?_⟩
 have ow4 := Mur.own8 (own_chg ow3.own ch4 (fun q e _ _ => trivial))
 refine rX 4 16 rfl rfl (Mur.append8 (.tmp 12) (.tmp 15) 38 5 rfl Tryd.underlying38 (by kernel_rfl) W1.heap.size AA2 64 nn2 (k ++ r) (some ⟨qe1, 0, none⟩) 8 8 EE1 (by kernel_rfl) (by kernel_rfl) ow4.own hbe1 (fun h => by cases h) (by omega) (by omega) 72 (by omega) ((k ++ r) ++ EE1) rfl) ?_
 rintro _ W5 ⟨AA3, nn3, rfl, ow5, ch5, ha3⟩
 have zz5 := ch5.size
 have hq6 := ow5.nc
 have hq7 := ow5.cm
 refine rP 5 3 (.slice AA3 72 nn3) rfl rfl ?_
 refine rEnd 6 rfl (nxt (wp_seq (reg ?_)))
 refine rP 0 17 (.slice AA3 72 nn3) rfl rfl ?_
 refine rP 1 18 (.pointer (some ⟨w.heap.size, 65, none⟩)) rfl rfl ?_
 refine rQ 2 19 (.slice (some ⟨w.heap.size, 65, none⟩) 32 32) rfl rfl (Mur.arr_slice_at 30 5 (.tmp 18) 32 rfl Tryd.underlying30 (by kernel_rfl) w.heap.size 65 (by kernel_rfl)) ?_
 refine rX 3 20 rfl rfl (Mur.append8 (.tmp 17) (.tmp 19) 38 5 rfl Tryd.underlying38 (by kernel_rfl) W1.heap.size AA3 72 nn3 ((k ++ r) ++ EE1) (some ⟨w.heap.size, 65, none⟩) 32 32 t (by kernel_rfl) (by kernel_rfl) ow5.own (Mur.byt_rng (Mur.att_tag hk hr (Chg.hp ch5 (Chg.hp ch4 (Chg.hp ch3 (Chg.hp ch2 hb1 (off_blk (fun gz hgz => by have := ow1.lt gz hgz; omega))) (off_blk (fun gz hgz => by have := ow2.lt gz hgz; omega))) trivial) (off_blk (fun gz hgz => by have := ow3.lt gz hgz; omega)))) ht) (fun h => by cases h) (by omega) (by omega) 104 (by omega) (((k ++ r) ++ EE1) ++ t) rfl) ?_
 rintro _ W6 ⟨AA4, nn4, rfl, ow6, ch6, ha4⟩
 have zz6 := ch6.size
 have hq8 := ow6.nc
 have hq9 := ow6.cm
 refine rP 4 2 (.slice AA4 104 nn4) rfl rfl ?_
 refine rEnd 5 rfl (nxt (wp_ret ?_))
 obtain ⟨q, hq_, hqb, hql⟩ : ∃ g, AA4 = some ⟨g, 0, none⟩ ∧ W1.heap.size ≤ g ∧ g < W6.heap.size := Mur.own8_someq ow6 (by omega)
 subst hq_
 have kk1 : Chg [] w W1 := Chg.step ((Chg.refl _).more (by simp)) ch1 trivial
 have kk2 := Chg.step kk1 ch2 (newOr_blk (fun g hg => by have := ow1.lt g hg; omega))
 have kk3 := Chg.step kk2 ch3 (newOr_blk (fun g hg => by have := ow2.lt g hg; omega))
 have kk4 := Chg.step kk3 ch4 trivial
 have kk5 := Chg.step kk4 ch5 (newOr_blk (fun g hg => by have := ow3.lt g hg; omega))
 have kk6 := Chg.step kk5 ch6 (newOr_blk (fun g hg => by have := ow5.lt g hg; omega))
 refine Wk.ret (.slice (some ⟨q, 0, none⟩) 104 nn4) rfl (by kernel_rfl) ?_
 exact ⟨q, nn4, _, Go.Lib.hid (by rw [hE1.out]; simp only [Mur.rawL, List.append_assoc]), rfl, ow6.byt, ⟨by omega, by omega⟩, ⟨by omega, by have h_ := ow6.cm; unfold Go.maxLen at h_; omega⟩, kk6⟩
theorem Compare_any (A : Option Addr) (n c : Nat) (l : List UInt8) (B : Option Addr) (m d : Nat) (r : List UInt8) (w : World) (hy1 : Byt w A n l) (hy2 : Byt w B m r) : Calls Tryd.prog 79 #[.slice A n c, .slice B m d] w fun e w' => e = .returned (.int .i64 (Go.Lib.compareBytes l r)) ∧ w = w' := by
 refine calls_of_wp Tryd.func79 rfl ?_
 refine wp_seq (reg ?_)
 refine rP 0 4 (.int .i64 0) rfl rfl ?_
 refine rEnd 1 rfl (nxt (wp_seq (reg ?_)))
 refine rP 0 5 (.slice A n c) rfl rfl ?_
 refine rP 1 6 (.slice B m d) rfl rfl ?_
 refine rQ 2 7 (.int .i64 (Go.Lib.compareBytes l r)) rfl rfl (Mur.run_cmp Tryd.func90 (by kernel_rfl) (by kernel_rfl) (by kernel_rfl) (by kernel_rfl) (.tmp 5) (.tmp 6) _ rfl A n c l B m d r (by kernel_rfl) (by kernel_rfl) hy1 hy2) ?_
 refine rP 3 4 (.int .i64 (Go.Lib.compareBytes l r)) rfl rfl ?_
 refine rEnd 4 rfl (nxt (wp_ret ?_))
 refine Wk.ret (.int .i64 (Go.Lib.compareBytes l r)) rfl (by kernel_rfl) ?_
 exact ⟨rfl, rfl⟩
theorem Less_any (k1 r1 t1 : List UInt8) (n1 : Int) (hk1 : k1.length = 32) (hr1 : r1.length = 32) (ht1 : t1.length = 32) (k2 r2 t2 : List UInt8) (n2 : Int) (hk2 : k2.length = 32) (hr2 : r2.length = 32) (ht2 : t2.length = 32) (w : World) : Calls Tryd.prog 59 #[.agg (attC k1 r1 n1 t1).toArray, .agg (attC k2 r2 n2 t2).toArray] w fun e w' => e = .returned (.bool (decide (Go.Lib.compareBytes (Mur.rawL k1 r1 n1 t1) (Mur.rawL k2 r2 n2 t2) < 0))) ∧ Chg [] w w' := by
 refine calls_of_wp Tryd.func59 rfl ?_
 refine wp_seq (reg ?_)
 refine rX 0 2 rfl rfl (new_ex (.pointer (some ⟨w.heap.size, 0, none⟩)) ((Mur.attC k1 r1 n1 t1).toArray) 32 (by kernel_rfl)) ?_
 rintro _ W1 ⟨rfl, hb1, ch1, sz1⟩
 have zz1 := ch1.size
 refine rX 1 3 rfl rfl (new_ex (.pointer (some ⟨W1.heap.size, 0, none⟩)) ((Mur.attC k2 r2 n2 t2).toArray) 32 (by kernel_rfl)) ?_
 rintro _ W2 ⟨rfl, hb2, ch2, sz2⟩
 have zz2 := ch2.size
 refine rP 2 4 (.bool false) rfl rfl ?_
 refine rEnd 3 rfl (nxt (wp_seq ?_))
 refine dReg ([]) (by kernel_rfl) ?_
 intro W3 ch3 sz3
 have zz3 := ch3.size
 have sS1 : Chg ([]) W3 W3 := (Chg.refl _).more (by simp)
 refine dV 0 5 (.agg ((Mur.attC k1 r1 n1 t1).toArray)) rfl rfl (fun w' hw' => (Mur.loadArr 32 (.tmp 2) rfl _ Tryd.underlying32 rfl w.heap.size (by kernel_rfl) (Mur.attC k1 r1 n1 t1).toArray 97 (Mur.attC_size hk1 hr1 ht1) (by kernel_rfl) 32 (0, 0) (Chg.hp hw' (Chg.hp ch3 (Chg.hp ch2 hb1 trivial) trivial) trivial))) sS1 ?_
 refine dV 2 7 (.agg ((Mur.attC k2 r2 n2 t2).toArray)) rfl rfl (fun w' hw' => (Mur.loadArr 32 (.tmp 3) rfl _ Tryd.underlying32 rfl W1.heap.size (by kernel_rfl) (Mur.attC k2 r2 n2 t2).toArray 97 (Mur.attC_size hk2 hr2 ht2) (by kernel_rfl) 32 (0, 0) (Chg.hp hw' (Chg.hp ch3 hb2 trivial) trivial))) sS1 ?_
 refine dOp 1 (by kernel_rfl) ?_
 refine oCall (some 6) 61 [.tmp 5] #[32] [.agg ((Mur.attC k1 r1 n1 t1).toArray)] rfl rfl (by kernel_rfl) rfl (by kernel_rfl) (by kernel_rfl) ?_
 refine (raw_any k1 r1 t1 n1 hk1 hr1 ht1 W3).mono ?_
 rintro _ W4 ⟨qr1, cr1, RB1, hRB1, rfl, hbr1, hq1, hq2, ch4⟩
 have zz4 := ch4.size
 have hBt1 : ∀ g off, (some ⟨qr1, 0, none⟩ : Option Addr) = some ⟨g, off, none⟩ → W3.heap.size ≤ g ∧ g < W4.heap.size := fun g off e => by cases e; exact hq1
 have sS2 := Chg.step sS1 ch4 trivial
 refine ⟨_, rfl, sS2, ?_⟩
 refine dOp 3 (by kernel_rfl) ?_
 refine oCall (some 8) 61 [.tmp 7] #[32] [.agg ((Mur.attC k2 r2 n2 t2).toArray)] rfl rfl (by kernel_rfl) rfl (by kernel_rfl) (by kernel_rfl) ?_
 refine (raw_any k2 r2 t2 n2 hk2 hr2 ht2 W4).mono ?_
 rintro _ W5 ⟨qr2, cr2, RB2, hRB2, rfl, hbr2, hq3, hq4, ch5⟩
 have zz5 := ch5.size
 have hBt2 : ∀ g off, (some ⟨qr2, 0, none⟩ : Option Addr) = some ⟨g, off, none⟩ → W4.heap.size ≤ g ∧ g < W5.heap.size := fun g off e => by cases e; exact hq3
 have sS3 := Chg.step sS2 ch5 trivial
 refine ⟨_, rfl, sS3, ?_⟩
 refine dOp 4 (by kernel_rfl) ?_
 refine oCall (some 9) 79 [.tmp 6, .tmp 8] #[38, 38] [.slice (some ⟨qr1, 0, none⟩) 104 cr1, .slice (some ⟨qr2, 0, none⟩) 104 cr2] rfl rfl (by kernel_rfl) rfl (by kernel_rfl) (by kernel_rfl) ?_
 refine (Compare_any (some ⟨qr1, 0, none⟩) 104 cr1 RB1 (some ⟨qr2, 0, none⟩) 104 cr2 RB2 W5 (Mur.byt_chg hbr1 ch5 (fun g off e hl => trivial)) hbr2).mono ?_
 rintro _ _ ⟨rfl, rfl⟩
 refine ⟨_, rfl, sS3, ?_⟩
 by_cases hx1 : (Go.Lib.compareBytes RB1 RB2) < (0 : Int)
 ·refine dV 5 10 (.bool true) rfl rfl (fun w' hw' => (boolT (b := decide ((Go.Lib.compareBytes RB1 RB2) < (0 : Int))) (decide_eq_true (by first | exact hx1 | omega)) (by kernel_rfl))) sS3 ?_
  refine dV 6 4 (.bool true) rfl rfl (fun _ _ => by kernel_rfl) sS3 ?_
  refine dEnd (by kernel_rfl) (nxt (wp_ret ?_))
  have kk1 : Chg [] w W1 := Chg.step ((Chg.refl _).more (by simp)) ch1 trivial
  have kk2 := Chg.step kk1 ch2 trivial
  have kk3 := Chg.step kk2 ch3 trivial
  have kk4 := Chg.step kk3 ch4 trivial
  have kk5 := Chg.step kk4 ch5 trivial
  refine Wk.ret (.bool true) rfl (by kernel_rfl) ?_
  exact ⟨by rw [← hRB1.out, ← hRB2.out, decide_eq_true (by assumption)], kk5⟩
 refine dV 5 10 (.bool false) rfl rfl (fun w' hw' => (boolF (b := decide ((Go.Lib.compareBytes RB1 RB2) < (0 : Int))) (decide_eq_false (by first | exact hx1 | omega)) (by kernel_rfl))) sS3 ?_
 refine dV 6 4 (.bool false) rfl rfl (fun _ _ => by kernel_rfl) sS3 ?_
 refine dEnd (by kernel_rfl) (nxt (wp_ret ?_))
 have kk6 : Chg [] w W1 := Chg.step ((Chg.refl _).more (by simp)) ch1 trivial
 have kk7 := Chg.step kk6 ch2 trivial
 have kk8 := Chg.step kk7 ch3 trivial
 have kk9 := Chg.step kk8 ch4 trivial
 have kk10 := Chg.step kk9 ch5 trivial
 refine Wk.ret (.bool false) rfl (by kernel_rfl) ?_
 exact ⟨by rw [← hRB1.out, ← hRB2.out, decide_eq_false (by assumption)], kk10⟩
end Go.Proofs.YtfhneademopciaaDoor
namespace Go.Proofs.YtfhneademopciaaDoor
open Go.RowKit Wk
open Mur (b8s Byt Own8 Seg Segs flat cutA attC)
set_option maxRecDepth 100000
set_option maxHeartbeats 4000000
theorem Bytes_ok (k r t : List UInt8) (n : Int) (hk : k.length = 32) (hr : r.length = 32) (ht : t.length = 32) (w : World) (hm : Mur.may n) : Calls Tryd.prog 38 #[.agg (attC k r n t).toArray] w fun e w' => ∃ q cq B, Hid (B = Mur.rawL k r n t) ∧ e = .returned (.tuple #[.slice (some ⟨q, 0, none⟩) 104 cq, .int .i64 0]) ∧ Byt w' (some ⟨q, 0, none⟩) 104 B ∧ (w.heap.size ≤ q ∧ q < w'.heap.size) ∧ (104 ≤ cq ∧ cq ≤ 9223372036854775807) ∧ Chg [] w w' := by
 refine calls_of_wp Tryd.func38 rfl ?_
 refine wp_seq (reg ?_)
 refine rX 0 1 rfl rfl (new_ex (.pointer (some ⟨w.heap.size, 0, none⟩)) ((Mur.attC k r n t).toArray) 32 (by kernel_rfl)) ?_
 rintro _ W1 ⟨rfl, hb1, ch1, sz1⟩
 have zz1 := ch1.size
 refine rP 1 2 (.slice none 0 0) rfl rfl ?_
 refine rP 2 3 (.int .i64 0) rfl rfl ?_
 refine rEnd 3 rfl (nxt (wp_seq (wp_seq (reg ?_))))
 refine rQ 0 4 (.agg ((Mur.attC k r n t).toArray)) rfl rfl (Mur.loadArr 32 (.tmp 1) rfl _ Tryd.underlying32 rfl w.heap.size (by kernel_rfl) (Mur.attC k r n t).toArray 97 (Mur.attC_size hk hr ht) (by kernel_rfl) 32 (0, 0) hb1) ?_
 refine rC 1 5 60 [.tmp 4] #[32] [.agg ((Mur.attC k r n t).toArray)] rfl rfl rfl ?_
 refine (may_any k r t n hk hr ht W1).mono ?_
 rw [decide_eq_true (hm : Mur.may n)]
 rintro _ W2 ⟨rfl, ch2⟩
 have zz2 := ch2.size
 refine ⟨_, rfl, ?_⟩
 refine rP 2 6 (.bool false) rfl rfl ?_
 refine rEnd 3 rfl (nxt (wp_cond_false (by kernel_rfl) (wp_skip (nxt (wp_seq (reg ?_))))))
 refine rQ 0 7 (.agg ((Mur.attC k r n t).toArray)) rfl rfl (Mur.loadArr 32 (.tmp 1) rfl _ Tryd.underlying32 rfl w.heap.size (by kernel_rfl) (Mur.attC k r n t).toArray 97 (Mur.attC_size hk hr ht) (by kernel_rfl) 32 (0, 0) (Chg.hp ch2 hb1 trivial)) ?_
 refine rC 1 8 61 [.tmp 7] #[32] [.agg ((Mur.attC k r n t).toArray)] rfl rfl rfl ?_
 refine (raw_any k r t n hk hr ht W2).mono ?_
 rintro _ W3 ⟨qr1, cr1, RB1, hRB1, rfl, hbr1, hq1, hq2, ch3⟩
 have zz3 := ch3.size
 have hBt1 : ∀ g off, (some ⟨qr1, 0, none⟩ : Option Addr) = some ⟨g, off, none⟩ → W2.heap.size ≤ g ∧ g < W3.heap.size := fun g off e => by cases e; exact hq1
 refine ⟨_, rfl, ?_⟩
 refine rP 2 2 (.slice (some ⟨qr1, 0, none⟩) 104 cr1) rfl rfl ?_
 refine rP 3 3 (.int .i64 0) rfl rfl ?_
 refine rEnd 4 rfl (nxt (wp_ret ?_))
 have kk1 : Chg [] w W1 := Chg.step ((Chg.refl _).more (by simp)) ch1 trivial
 have kk2 := Chg.step kk1 ch2 trivial
 have kk3 := Chg.step kk2 ch3 trivial
 refine Wk.ret (.tuple #[.slice (some ⟨qr1, 0, none⟩) 104 cr1, .int .i64 0]) rfl (by kernel_rfl) ?_
 exact ⟨_, _, _, hRB1, rfl, hbr1, ⟨by omega, by omega⟩, ⟨by omega, by omega⟩, kk3⟩
theorem Bytes_no (k r t : List UInt8) (n : Int) (hk : k.length = 32) (hr : r.length = 32) (ht : t.length = 32) (w : World) (hm : ¬ Mur.may n) : Calls Tryd.prog 38 #[.agg (attC k r n t).toArray] w fun e w' => e = .returned (.tuple #[.slice none 0 0, .int .i64 2]) ∧ Chg [] w w' := by
 refine calls_of_wp Tryd.func38 rfl ?_
 refine wp_seq (reg ?_)
 refine rX 0 1 rfl rfl (new_ex (.pointer (some ⟨w.heap.size, 0, none⟩)) ((Mur.attC k r n t).toArray) 32 (by kernel_rfl)) ?_
 rintro _ W1 ⟨rfl, hb1, ch1, sz1⟩
 have zz1 := ch1.size
 refine rP 1 2 (.slice none 0 0) rfl rfl ?_
 refine rP 2 3 (.int .i64 0) rfl rfl ?_
 refine rEnd 3 rfl (nxt (wp_seq (wp_seq (reg ?_))))
 refine rQ 0 4 (.agg ((Mur.attC k r n t).toArray)) rfl rfl (Mur.loadArr 32 (.tmp 1) rfl _ Tryd.underlying32 rfl w.heap.size (by kernel_rfl) (Mur.attC k r n t).toArray 97 (Mur.attC_size hk hr ht) (by kernel_rfl) 32 (0, 0) hb1) ?_
 refine rC 1 5 60 [.tmp 4] #[32] [.agg ((Mur.attC k r n t).toArray)] rfl rfl rfl ?_
 refine (may_any k r t n hk hr ht W1).mono ?_
 rw [decide_eq_false (hm : ¬ Mur.may n)]
 rintro _ W2 ⟨rfl, ch2⟩
 have zz2 := ch2.size
 refine ⟨_, rfl, ?_⟩
 refine rP 2 6 (.bool true) rfl rfl ?_
 refine rEnd 3 rfl (nxt (wp_cond_true (by kernel_rfl) (wp_seq (reg ?_))))
 refine rP 0 2 (.slice none 0 0) rfl rfl ?_
 refine rP 1 3 (.int .i64 2) rfl rfl ?_
 refine rEnd 2 rfl (nxt (wp_ret (thR ?_)))
 have kk1 : Chg [] w W1 := Chg.step ((Chg.refl _).more (by simp)) ch1 trivial
 have kk2 := Chg.step kk1 ch2 trivial
 refine Wk.ret (.tuple #[.slice none 0 0, .int .i64 2]) rfl (by kernel_rfl) ?_
 exact ⟨rfl, kk2⟩
end Go.Proofs.YtfhneademopciaaDoor
namespace Go.Proofs.YtfhneademopciaaDoor
open Go.RowKit Wk
open Mur (b8s Byt Own8 Seg Segs flat cutA attC Att SlA OwnA rowA)
set_option maxRecDepth 100000
set_option maxHeartbeats 4000000
def Idx15_F1 (b : Array Value) (u0 : Value) (u1 : Value) (u7 : Value) (u8 : Value) : Act := ⟨#[u0, u1, gd b 2, gd b 3, gd b 4, gd b 5, gd b 6, u7, u8, gd b 9, gd b 10, gd b 11, gd b 12, gd b 13, gd b 14, gd b 15, gd b 16, gd b 17, gd b 18], []⟩
theorem compare_any (x y : Att) (w : World) : Calls Tryd.prog 40 #[.agg (attC x.k x.r x.n x.t).toArray, .agg (attC y.k y.r y.n y.t).toArray] w fun e w' => e = .returned (.int .i64 (Mur.cmpA x y)) ∧ Chg [] w w' := by
 refine calls_of_wp Tryd.func40 rfl ?_
 refine wp_seq (reg ?_)
 refine rX 0 2 rfl rfl (new_ex (.pointer (some ⟨w.heap.size, 0, none⟩)) ((Mur.attC x.k x.r x.n x.t).toArray) 32 (by kernel_rfl)) ?_
 rintro _ W1 ⟨rfl, hb1, ch1, sz1⟩
 have zz1 := ch1.size
 refine rX 1 3 rfl rfl (new_ex (.pointer (some ⟨W1.heap.size, 0, none⟩)) ((Mur.attC y.k y.r y.n y.t).toArray) 32 (by kernel_rfl)) ?_
 rintro _ W2 ⟨rfl, hb2, ch2, sz2⟩
 have zz2 := ch2.size
 refine rP 2 4 (.int .i64 0) rfl rfl ?_
 refine rEnd 3 rfl (nxt (wp_seq (wp_block (wp_seq (reg ?_)))))
 refine rQ 0 6 (.agg ((Mur.attC x.k x.r x.n x.t).toArray)) rfl rfl (Mur.loadArr 32 (.tmp 2) rfl _ Tryd.underlying32 rfl w.heap.size (by kernel_rfl) (Mur.attC x.k x.r x.n x.t).toArray 97 (Mur.attC_size x.hk x.hr x.ht) (by kernel_rfl) 32 (0, 0) (Chg.hp ch2 hb1 trivial)) ?_
 refine rQ 1 7 (.agg ((Mur.attC y.k y.r y.n y.t).toArray)) rfl rfl (Mur.loadArr 32 (.tmp 3) rfl _ Tryd.underlying32 rfl W1.heap.size (by kernel_rfl) (Mur.attC y.k y.r y.n y.t).toArray 97 (Mur.attC_size y.hk y.hr y.ht) (by kernel_rfl) 32 (0, 0) hb2) ?_
 refine rC 2 8 59 [.tmp 6, .tmp 7] #[32, 32] [.agg ((Mur.attC x.k x.r x.n x.t).toArray), .agg ((Mur.attC y.k y.r y.n y.t).toArray)] rfl rfl rfl ?_
 refine (Less_any x.k x.r x.t x.n x.hk x.hr x.ht y.k y.r y.t y.n y.hk y.hr y.ht W2).mono ?_
 by_cases hls1 : Go.Lib.compareBytes (Mur.rawL x.k x.r x.n x.t) (Mur.rawL y.k y.r y.n y.t) < 0
 ·rw [decide_eq_true (hls1 : Go.Lib.compareBytes (Mur.rawL x.k x.r x.n x.t) (Mur.rawL y.k y.r y.n y.t) < 0)]
  rintro _ W3 ⟨rfl, ch3⟩
  have zz3 := ch3.size
  refine ⟨_, rfl, ?_⟩
  refine rP 3 5 (.bool true) rfl rfl ?_
  refine rEnd 4 rfl (nxt (wp_cond_true (by kernel_rfl) (wp_seq (reg ?_))))
  refine rP 0 4 (.int .i64 (-1)) rfl rfl ?_
  refine rEnd 1 rfl (nxt (wp_ret (inR (thR ?_))))
  have kk1 : Chg [] w W1 := Chg.step ((Chg.refl _).more (by simp)) ch1 trivial
  have kk2 := Chg.step kk1 ch2 trivial
  have kk3 := Chg.step kk2 ch3 trivial
  refine Wk.ret (.int .i64 (-1)) rfl (by kernel_rfl) ?_
  exact ⟨congrArg (fun z => Ending.returned (.int .i64 z)) (show (-1) = Mur.cmpA x y from (show Mur.cmpA x y = (-1) from if_pos hls1).symm), kk3⟩
 rw [decide_eq_false (hls1 : ¬ Go.Lib.compareBytes (Mur.rawL x.k x.r x.n x.t) (Mur.rawL y.k y.r y.n y.t) < 0)]
 rintro _ W3 ⟨rfl, ch3⟩
 have zz4 := ch3.size
 refine ⟨_, rfl, ?_⟩
 refine rP 3 5 (.bool false) rfl rfl ?_
 refine rEnd 4 rfl (nxt (wp_cond_false (by kernel_rfl) (wp_seq (reg ?_))))
 refine rQ 0 10 (.agg ((Mur.attC x.k x.r x.n x.t).toArray)) rfl rfl (Mur.loadArr 32 (.tmp 2) rfl _ Tryd.underlying32 rfl w.heap.size (by kernel_rfl) (Mur.attC x.k x.r x.n x.t).toArray 97 (Mur.attC_size x.hk x.hr x.ht) (by kernel_rfl) 32 (0, 0) (Chg.hp ch3 (Chg.hp ch2 hb1 trivial) trivial)) ?_
 refine rQ 1 11 (.agg ((Mur.attC y.k y.r y.n y.t).toArray)) rfl rfl (Mur.loadArr 32 (.tmp 3) rfl _ Tryd.underlying32 rfl W1.heap.size (by kernel_rfl) (Mur.attC y.k y.r y.n y.t).toArray 97 (Mur.attC_size y.hk y.hr y.ht) (by kernel_rfl) 32 (0, 0) (Chg.hp ch3 hb2 trivial)) ?_
 by_cases hatt1 : x.k = y.k ∧ x.r = y.r ∧ x.n = y.n ∧ x.t = y.t
 ·refine rQ 2 12 _ rfl rfl (boolT (b := decide (x.k = y.k ∧ x.r = y.r ∧ x.n = y.n ∧ x.t = y.t)) (decide_eq_true (hatt1)) (run_eql_att (.tmp 10) (.tmp 11) 32 rfl x.hk x.hr x.ht y.hk y.hr y.ht x.hn y.hn (by kernel_rfl) (by kernel_rfl))) ?_
  refine rP 3 9 (.bool true) rfl rfl ?_
  refine rEnd 4 rfl (nxt (wp_cond_true (by kernel_rfl) (wp_seq (reg ?_))))
  refine rP 0 4 (.int .i64 0) rfl rfl ?_
  refine rEnd 1 rfl (nxt (wp_ret (inR (thR ?_))))
  have kk4 : Chg [] w W1 := Chg.step ((Chg.refl _).more (by simp)) ch1 trivial
  have kk5 := Chg.step kk4 ch2 trivial
  have kk6 := Chg.step kk5 ch3 trivial
  refine Wk.ret (.int .i64 0) rfl (by kernel_rfl) ?_
  exact ⟨congrArg (fun z => Ending.returned (.int .i64 z)) (show (0 : Int) = Mur.cmpA x y from (show Mur.cmpA x y = 0 from (if_neg hls1).trans (if_pos ((Mur.Att.eq_iff x y).2 hatt1))).symm), kk6⟩
 refine rQ 2 12 _ rfl rfl (boolF (b := decide (x.k = y.k ∧ x.r = y.r ∧ x.n = y.n ∧ x.t = y.t)) (decide_eq_false (hatt1)) (run_eql_att (.tmp 10) (.tmp 11) 32 rfl x.hk x.hr x.ht y.hk y.hr y.ht x.hn y.hn (by kernel_rfl) (by kernel_rfl))) ?_
 refine rP 3 9 (.bool false) rfl rfl ?_
 refine rEnd 4 rfl (nxt (wp_cond_false (by kernel_rfl) (wp_skip (inN (nxt (wp_seq (reg ?_)))))))
 refine rP 0 4 (.int .i64 1) rfl rfl ?_
 refine rEnd 1 rfl (nxt (wp_ret ?_))
 have kk7 : Chg [] w W1 := Chg.step ((Chg.refl _).more (by simp)) ch1 trivial
 have kk8 := Chg.step kk7 ch2 trivial
 have kk9 := Chg.step kk8 ch3 trivial
 refine Wk.ret (.int .i64 1) rfl (by kernel_rfl) ?_
 exact ⟨congrArg (fun z => Ending.returned (.int .i64 z)) (show (1 : Int) = Mur.cmpA x y from (show Mur.cmpA x y = 1 from (if_neg hls1).trans (if_neg (fun q => hatt1 ((Mur.Att.eq_iff x y).1 q)))).symm), kk9⟩
theorem half_any (k : List UInt8) (i : Nat) (hk : k.length = 32) (hi : i < 64) (w : World) : Calls Tryd.prog 65 #[.agg (b8s k).toArray, .int .i64 ((i : Nat) : Int)] w fun e w' => e = .returned (.int .u8 (((Mur.nib k i).toNat : Nat) : Int)) ∧ Chg [] w w' := by
 refine calls_of_wp Tryd.func65 rfl ?_
 refine wp_seq (reg ?_)
 refine rX 0 2 rfl rfl (new_ex (.pointer (some ⟨w.heap.size, 0, none⟩)) ((b8s k).toArray) 30 (by kernel_rfl)) ?_
 rintro _ W1 ⟨rfl, hb1, ch1, sz1⟩
 have zz1 := ch1.size
 refine rP 1 4 (.int .u8 0) rfl rfl ?_
 refine rEnd 2 rfl (nxt (wp_seq (wp_seq (reg ?_))))
 refine rP 0 5 (.int .i64 ((i : Nat) : Int)) rfl rfl ?_
 refine rQ 1 6 (.int .i64 ((i % 2 : Nat) : Int)) rfl rfl (Wk.rem_nat 3 3 (.tmp 5) (.const (.int .i64 2)) rfl i 2 (by kernel_rfl) (by kernel_rfl) (by omega)) ?_
 by_cases hx1 : ((i % 2 : Nat) : Int) = (0 : Int)
 ·refine rQ 2 7 _ rfl rfl (qboolT (b := (((i % 2 : Nat) : Int) == (0 : Int))) (beq_iff_eq.2 (by first | exact hx1 | omega))) ?_
  refine rEnd 3 rfl (nxt (wp_cond_true (by kernel_rfl) (wp_seq (reg ?_))))
  refine rP 0 8 (.int .i64 ((i : Nat) : Int)) rfl rfl ?_
  refine rQ 1 9 (.int .i64 ((i / 2 : Nat) : Int)) rfl rfl (Mur.quo_nat 3 3 (.tmp 8) (.const (.int .i64 2)) rfl i 2 (by kernel_rfl) (by kernel_rfl) (by omega) (by omega)) ?_
  refine rQ 2 10 (.pointer (some ⟨w.heap.size, 0 + (i / 2) * 1, none⟩)) rfl rfl (Wk.index_arr 30 5 (.tmp 2) (.tmp 9) rfl 32 Tryd.underlying30 1 (by kernel_rfl) w.heap.size 0 (i / 2) .i64 (by kernel_rfl) (by kernel_rfl) (by omega)) ?_
  refine rQ 3 11 _ rfl rfl (load1 5 (.tmp 10) rfl (by kernel_rfl) ⟨w.heap.size, 0 + (i / 2) * 1, none⟩ (by kernel_rfl) (.int .u8 (((k.getD (i / 2) 0).toNat : Nat) : Int)) (Mur.blk_cell k hb1 (i / 2) (by rw [hk]; omega))) ?_
  refine rQ 4 12 (.int .u8 ((((k.getD (i / 2) 0) >>> 4).toNat : Nat) : Int)) rfl rfl (Mur.shr8_4 5 109 (.tmp 11) (.const (.int .u64 4)) rfl (k.getD (i / 2) 0) (by kernel_rfl) (by kernel_rfl)) ?_
  refine rP 5 4 (.int .u8 ((((k.getD (i / 2) 0) >>> 4).toNat : Nat) : Int)) rfl rfl ?_
  refine rEnd 6 rfl (nxt (wp_ret (thR ?_)))
  have kk1 : Chg [] w W1 := Chg.step ((Chg.refl _).more (by simp)) ch1 trivial
  refine Wk.ret (.int .u8 ((((k.getD (i / 2) 0) >>> 4).toNat : Nat) : Int)) rfl (by kernel_rfl) ?_
  exact ⟨by unfold Mur.nib; rw [if_pos (by omega)], kk1⟩
 refine rQ 2 7 _ rfl rfl (qboolF (b := (((i % 2 : Nat) : Int) == (0 : Int))) (beq_eq_false_iff_ne.2 (by first | exact hx1 | omega))) ?_
 refine rEnd 3 rfl (nxt (wp_cond_false (by kernel_rfl) (wp_skip (nxt (wp_seq (reg ?_))))))
 refine rP 0 13 (.int .i64 ((i : Nat) : Int)) rfl rfl ?_
 refine rQ 1 14 (.int .i64 ((i / 2 : Nat) : Int)) rfl rfl (Mur.quo_nat 3 3 (.tmp 13) (.const (.int .i64 2)) rfl i 2 (by kernel_rfl) (by kernel_rfl) (by omega) (by omega)) ?_
 refine rQ 2 15 (.pointer (some ⟨w.heap.size, 0 + (i / 2) * 1, none⟩)) rfl rfl (Wk.index_arr 30 5 (.tmp 2) (.tmp 14) rfl 32 Tryd.underlying30 1 (by kernel_rfl) w.heap.size 0 (i / 2) .i64 (by kernel_rfl) (by kernel_rfl) (by omega)) ?_
 refine rQ 3 16 _ rfl rfl (load1 5 (.tmp 15) rfl (by kernel_rfl) ⟨w.heap.size, 0 + (i / 2) * 1, none⟩ (by kernel_rfl) (.int .u8 (((k.getD (i / 2) 0).toNat : Nat) : Int)) (Mur.blk_cell k hb1 (i / 2) (by rw [hk]; omega))) ?_
 refine rQ 4 17 (.int .u8 ((((k.getD (i / 2) 0) &&& 15).toNat : Nat) : Int)) rfl rfl (Mur.and8_15 5 5 (.tmp 16) (.const (.int .u8 15)) rfl (k.getD (i / 2) 0) (by kernel_rfl) (by kernel_rfl)) ?_
 refine rP 5 4 (.int .u8 ((((k.getD (i / 2) 0) &&& 15).toNat : Nat) : Int)) rfl rfl ?_
 refine rEnd 6 rfl (nxt (wp_ret ?_))
 have kk2 : Chg [] w W1 := Chg.step ((Chg.refl _).more (by simp)) ch1 trivial
 refine Wk.ret (.int .u8 ((((k.getD (i / 2) 0) &&& 15).toNat : Nat) : Int)) rfl (by kernel_rfl) ?_
 exact ⟨by unfold Mur.nib; rw [if_neg (by omega)], kk2⟩
theorem over_any (x : UInt8) (w : World) : Calls Tryd.prog 46 #[.int .u8 ((x.toNat : Nat) : Int)] w fun e w' => e = .returned (.bool (decide (15 < x))) ∧ w = w' := by
 refine calls_of_wp Tryd.func46 rfl ?_
 refine wp_seq (reg ?_)
 refine rP 0 2 (.bool false) rfl rfl ?_
 refine rEnd 1 rfl (nxt (wp_seq (reg ?_)))
 refine rP 0 3 (.int .u8 ((x.toNat : Nat) : Int)) rfl rfl ?_
 by_cases hx1 : ((x.toNat : Nat) : Int) > (15 : Int)
 ·refine rQ 1 4 _ rfl rfl (qboolT (b := decide (((x.toNat : Nat) : Int) > (15 : Int))) (decide_eq_true (by first | exact hx1 | omega))) ?_
  refine rP 2 2 (.bool true) rfl rfl ?_
  refine rEnd 3 rfl (nxt (wp_ret ?_))
  refine Wk.ret (.bool true) rfl (by kernel_rfl) ?_
  exact ⟨by rw [decide_eq_true (show 15 < x by rw [UInt8.lt_iff_toNat_lt]; show 15 < x.toNat; omega)], rfl⟩
 refine rQ 1 4 _ rfl rfl (qboolF (b := decide (((x.toNat : Nat) : Int) > (15 : Int))) (decide_eq_false (by first | exact hx1 | omega))) ?_
 refine rP 2 2 (.bool false) rfl rfl ?_
 refine rEnd 3 rfl (nxt (wp_ret ?_))
 refine Wk.ret (.bool false) rfl (by kernel_rfl) ?_
 exact ⟨by rw [decide_eq_false (show ¬ 15 < x by rw [UInt8.lt_iff_toNat_lt]; show ¬ 15 < x.toNat; omega)], rfl⟩
theorem index15_any (l : List UInt8) (A : Option Addr) (n c : Nat) (w : World) (hb : Byt w A n l) (hn : n ≤ 9223372036854775807) : Calls Tryd.prog 68 #[.slice A n c, .func (.func 46) #[] #[]] w fun e w' => ∃ r : Int, e = .returned (.int .i64 r) ∧ (0 ≤ r ↔ (l.all fun x => decide (x ≤ 15)) = false) ∧ w = w' := by
 have HB := Go.Lib.hid hb
 clear hb
 refine calls_of_wp Tryd.func68 rfl ?_
 refine wp_seq (reg ?_)
 refine rP 0 4 (.int .i64 0) rfl rfl ?_
 refine rEnd 1 rfl (nxt (wp_seq (wp_seq (reg ?_))))
 refine rP 0 6 (.slice A n c) rfl rfl ?_
 refine rP 1 7 (.int .i64 ((n : Nat) : Int)) rfl rfl ?_
 refine rP 2 8 (.int .i64 0) rfl rfl ?_
 refine rEnd 3 rfl (nxt (wp_block ?_))
 refine Wk.loop (fun m_ a wr => ∃ (i : Nat), m_ = n - i ∧ a = Idx15_F1 a.tmps (.slice A n c) (.func (.func 46) #[] #[]) (.int .i64 ((n : Nat) : Int)) (.int .i64 ((i : Nat) : Int)) ∧ i ≤ n ∧ (∀ j, j < i → (l.getD j 0) ≤ 15) ∧ wr = w) (n - 0) ?_ ?_
 ·refine ⟨0, rfl, by kernel_rfl, Nat.zero_le _, (fun j h => by omega), rfl⟩
 rintro mm1 aa1 W1 ⟨i, hmm1, hF1, hi, hall, hw⟩
 generalize aa1.tmps = bb1 at hF1
 subst hF1
 subst hw
 by_cases hlt : i < n
 ·obtain ⟨q, off, rfl, hcc⟩ := HB.out.2 (by omega)
  refine wp_seq (reg ?_)
  refine rQ 0 9 _ rfl rfl (qboolT (b := decide (((i : Nat) : Int) < ((n : Nat) : Int))) (decide_eq_true (by omega))) ?_
  refine rEnd 1 rfl (nxt (wp_seq (wp_cond_true (by kernel_rfl) (wp_skip (nxt (wp_seq (wp_block (wp_seq (reg ?_)))))))))
  refine rP 0 10 (.int .i64 ((i : Nat) : Int)) rfl rfl ?_
  refine rP 1 5 (.int .i64 ((i : Nat) : Int)) rfl rfl ?_
  refine rEnd 2 rfl (nxt (wp_seq (reg ?_)))
  refine rP 0 11 (.func (.func 46) #[] #[]) rfl rfl ?_
  refine rP 1 12 (.slice (some ⟨q, off, none⟩) n c) rfl rfl ?_
  refine rP 2 13 (.int .i64 ((i : Nat) : Int)) rfl rfl ?_
  refine rQ 3 14 (.pointer (some ⟨q, off + i * 1, none⟩)) rfl rfl (index_sl 38 5 (.tmp 12) (.tmp 13) rfl Tryd.underlying38 1 (by kernel_rfl) q off n c i .i64 (by kernel_rfl) (by kernel_rfl) (by omega)) ?_
  refine rQ 4 15 _ rfl rfl (load1 5 (.tmp 14) rfl (by kernel_rfl) ⟨q, off + i * 1, none⟩ (by kernel_rfl) (.int .u8 (((l.getD i 0).toNat : Nat) : Int)) (Mur.byt_cell HB.out i (by omega))) ?_
  refine Wk.rCallV 5 (some 16) (.tmp 11) 46 #[] [.tmp 15] #[5] [.int .u8 (((l.getD i 0).toNat : Nat) : Int)] rfl rfl (by kernel_rfl) rfl (by kernel_rfl) (by kernel_rfl) (by kernel_rfl) ?_
  refine (over_any (l.getD i 0) W1).mono ?_
  by_cases hov1 : 15 < (l.getD i 0)
  ·rw [decide_eq_true hov1]
   rintro _ _ ⟨rfl, rfl⟩
   refine ⟨_, rfl, ?_⟩
   refine rEnd 6 rfl (nxt (wp_cond_true (by kernel_rfl) (wp_seq (reg ?_))))
   refine rP 0 17 (.int .i64 ((i : Nat) : Int)) rfl rfl ?_
   refine rP 1 4 (.int .i64 ((i : Nat) : Int)) rfl rfl ?_
   refine rEnd 2 rfl (nxt (wp_ret (inR (thR (thR (inR (thR ?_)))))))
   refine Wk.ret (.int .i64 ((i : Nat) : Int)) rfl (by kernel_rfl) ?_
   exact ⟨_, rfl, by rw [show (l.all fun x => decide (x ≤ 15)) = false from Mur.some15 HB.out.1 hlt hov1]; simp, rfl⟩
  rw [decide_eq_false hov1]
  rintro _ _ ⟨rfl, rfl⟩
  refine ⟨_, rfl, ?_⟩
  refine rEnd 6 rfl (nxt (wp_cond_false (by kernel_rfl) (wp_skip (inN (nxt (reg ?_))))))
  refine rQ 0 18 _ rfl rfl (qint64 (n := ((i : Nat) : Int) + 1) (z := ((i + 1 : Nat) : Int)) (by omega) (by omega) (by omega)) ?_
  refine rP 1 8 (.int .i64 ((i + 1 : Nat) : Int)) rfl rfl ?_
  refine rEnd 2 rfl (nxt ?_)
  refine ⟨_, ?_, i + 1, rfl, by kernel_rfl, (by omega), (fun j hj => by rcases Nat.lt_or_ge j i with h1 | h1 <;> first | exact hall j h1 | (obtain rfl : j = i := (by omega); exact UInt8.not_lt.1 hov1)), rfl⟩
  omega
 refine wp_seq (reg ?_)
 refine rQ 0 9 _ rfl rfl (qboolF (b := decide (((i : Nat) : Int) < ((n : Nat) : Int))) (decide_eq_false (by omega))) ?_
 refine rEnd 1 rfl (nxt (wp_seq (wp_cond_false (by kernel_rfl) (wp_exit (thX (thX (inX (nxt (wp_seq (reg ?_))))))))))
 refine rP 0 4 (.int .i64 (-1)) rfl rfl ?_
 refine rEnd 1 rfl (nxt (wp_ret ?_))
 refine Wk.ret (.int .i64 (-1)) rfl (by kernel_rfl) ?_
 exact ⟨_, rfl, by rw [show (l.all fun x => decide (x ≤ 15)) = true from Mur.all15 HB.out.1 (fun j hj => hall j (by omega))]; simp, rfl⟩
theorem contains15_any (l : List UInt8) (A : Option Addr) (n c : Nat) (w : World) (hb : Byt w A n l) (hn : n ≤ 9223372036854775807) : Calls Tryd.prog 45 #[.slice A n c, .func (.func 46) #[] #[]] w fun e w' => e = .returned (.bool (!(l.all fun x => decide (x ≤ 15)))) ∧ w = w' := by
 refine calls_of_wp Tryd.func45 rfl ?_
 refine wp_seq (reg ?_)
 refine rP 0 4 (.bool false) rfl rfl ?_
 refine rEnd 1 rfl (nxt (wp_seq (reg ?_)))
 refine rP 0 5 (.slice A n c) rfl rfl ?_
 refine rP 1 6 (.func (.func 46) #[] #[]) rfl rfl ?_
 refine rC 2 7 68 [.tmp 5, .tmp 6] #[38, 90] [.slice A n c, .func (.func 46) #[] #[]] rfl rfl rfl ?_
 refine (index15_any l A n c w hb (by omega)).mono ?_
 rintro _ _ ⟨r_1, rfl, hr1, rfl⟩
 refine ⟨_, rfl, ?_⟩
 by_cases hx1 : r_1 ≥ (0 : Int)
 ·refine rQ 3 8 _ rfl rfl (qboolT (b := decide (r_1 ≥ (0 : Int))) (decide_eq_true (by first | exact hx1 | omega))) ?_
  refine rP 4 4 (.bool true) rfl rfl ?_
  refine rEnd 5 rfl (nxt (wp_ret ?_))
  refine Wk.ret (.bool true) rfl (by kernel_rfl) ?_
  exact ⟨by rw [show (l.all fun x => decide (x ≤ 15)) = false from by first | exact hr1.1 (by omega) | (cases hq : (l.all fun x => decide (x ≤ 15)) <;> first | rfl | exact absurd (hr1.2 hq) (by omega))]; rfl, rfl⟩
 refine rQ 3 8 _ rfl rfl (qboolF (b := decide (r_1 ≥ (0 : Int))) (decide_eq_false (by first | exact hx1 | omega))) ?_
 refine rP 4 4 (.bool false) rfl rfl ?_
 refine rEnd 5 rfl (nxt (wp_ret ?_))
 refine Wk.ret (.bool false) rfl (by kernel_rfl) ?_
 exact ⟨by rw [show (l.all fun x => decide (x ≤ 15)) = true from by first | exact hr1.1 (by omega) | (cases hq : (l.all fun x => decide (x ≤ 15)) <;> first | rfl | exact absurd (hr1.2 hq) (by omega))]; rfl, rfl⟩
theorem IsPrefix_any (l : List UInt8) (A : Option Addr) (n c : Nat) (w : World) (hb : Byt w A n l) (hn : n ≤ 9223372036854775807) : Calls Tryd.prog 19 #[.slice A n c] w fun e w' => e = .returned (.bool (Mur.isPre l)) ∧ w = w' := by
 refine calls_of_wp Tryd.func19 rfl ?_
 refine wp_seq (reg ?_)
 refine rP 0 2 (.bool false) rfl rfl ?_
 refine rEnd 1 rfl (nxt (wp_seq (reg ?_)))
 refine rP 0 3 (.slice A n c) rfl rfl ?_
 refine rP 1 4 (.int .i64 ((n : Nat) : Int)) rfl rfl ?_
 by_cases hx1 : ((n : Nat) : Int) ≤ (8 : Int)
 ·refine rQ 2 5 _ rfl rfl (qboolT (b := decide (((n : Nat) : Int) ≤ (8 : Int))) (decide_eq_true (by first | exact hx1 | omega))) ?_
  refine rP 3 6 (.bool true) rfl rfl ?_
  refine rP 4 7 (.slice A n c) rfl rfl ?_
  refine rC 5 8 45 [.tmp 7, .func 46] #[38, 90] [.slice A n c, .func (.func 46) #[] #[]] rfl rfl rfl ?_
  refine (contains15_any l A n c w hb (by omega)).mono ?_
  cases hal1 : (l.all fun x => decide (x ≤ 15))
  ·rintro _ _ ⟨rfl, rfl⟩
   refine ⟨_, rfl, ?_⟩
   refine rP 6 9 (.bool false) rfl rfl ?_
   refine rP 7 10 (.bool false) rfl rfl ?_
   refine rP 8 2 (.bool false) rfl rfl ?_
   refine rEnd 9 rfl (nxt (wp_ret ?_))
   refine Wk.ret (.bool false) rfl (by kernel_rfl) ?_
   exact ⟨by rw [show Mur.isPre l = false from by unfold Mur.isPre; rw [hal1]; rfl], rfl⟩
  rintro _ _ ⟨rfl, rfl⟩
  refine ⟨_, rfl, ?_⟩
  refine rP 6 9 (.bool true) rfl rfl ?_
  refine rP 7 10 (.bool true) rfl rfl ?_
  refine rP 8 2 (.bool true) rfl rfl ?_
  refine rEnd 9 rfl (nxt (wp_ret ?_))
  refine Wk.ret (.bool true) rfl (by kernel_rfl) ?_
  exact ⟨by rw [show Mur.isPre l = true from by unfold Mur.isPre; rw [hal1]; have := hb.1; simp; omega], rfl⟩
 refine rQ 2 5 _ rfl rfl (qboolF (b := decide (((n : Nat) : Int) ≤ (8 : Int))) (decide_eq_false (by first | exact hx1 | omega))) ?_
 refine rP 3 6 (.bool false) rfl rfl ?_
 refine rPass 4 (some 7) rfl rfl (by kernel_rfl) ?_
 refine rPass 5 (some 8) rfl rfl (by kernel_rfl) ?_
 refine rPass 6 (some 9) rfl rfl (by kernel_rfl) ?_
 refine rP 7 10 (.bool false) rfl rfl ?_
 refine rP 8 2 (.bool false) rfl rfl ?_
 refine rEnd 9 rfl (nxt (wp_ret ?_))
 refine Wk.ret (.bool false) rfl (by kernel_rfl) ?_
 exact ⟨by rw [show Mur.isPre l = false from by unfold Mur.isPre; have := hb.1; simp; omega], rfl⟩
end Go.Proofs.YtfhneademopciaaDoor
namespace Go.Proofs.YtfhneademopciaaDoor
open Go.RowKit Wk
open Mur (b8s Byt Own8 Seg Segs flat cutA attC Att SlA OwnA rowA)
set_option maxRecDepth 100000
set_option maxHeartbeats 4000000
def Srch_F1 (b : Array Value) (u0 : Value) (u2 : Value) (u4 : Value) (u8 : Value) (u9 : Value) (u10 : Value) : Act := ⟨#[u0, gd b 1, u2, gd b 3, u4, gd b 5, gd b 6, gd b 7, u8, u9, u10, gd b 11, gd b 12, gd b 13, gd b 14, gd b 15, gd b 16, gd b 17, gd b 18, gd b 19, gd b 20, gd b 21, gd b 22, gd b 23, gd b 24, gd b 25, gd b 26, gd b 27, gd b 28, gd b 29, gd b 30, gd b 31, gd b 32, gd b 33, gd b 34, gd b 35, gd b 36, gd b 37, gd b 38, gd b 39, gd b 40, gd b 41, gd b 42, gd b 43, gd b 44, gd b 45, gd b 46, gd b 47, gd b 48], []⟩
theorem Search_any (L : List Att) (hs : Mur.Sorted L) (A : Option Addr) (n c : Nat) (x : Att) (w : World) (hb : SlA w A n L) (hn : n ≤ 100000) : Calls Tryd.prog 39 #[.slice A n c, .agg (attC x.k x.r x.n x.t).toArray, .func (.func 40) #[] #[]] w fun e w' => e = .returned (.tuple #[.int .i64 ((Mur.pos x L : Nat) : Int), .bool (decide (x ∈ L))]) ∧ Chg [] w w' := by
 refine calls_of_wp Tryd.func39 rfl ?_
 refine wp_seq (reg ?_)
 refine rX 0 4 rfl rfl (new_ex (.pointer (some ⟨w.heap.size, 0, none⟩)) ((Mur.attC x.k x.r x.n x.t).toArray) 32 (by kernel_rfl)) ?_
 rintro _ W1 ⟨rfl, hb1, ch1, sz1⟩
 have zz1 := ch1.size
 refine rP 1 6 (.int .i64 0) rfl rfl ?_
 refine rP 2 7 (.bool false) rfl rfl ?_
 refine rEnd 3 rfl (nxt (wp_seq (reg ?_)))
 refine rP 0 12 (.slice A n c) rfl rfl ?_
 refine rP 1 13 (.int .i64 ((n : Nat) : Int)) rfl rfl ?_
 refine rP 2 8 (.int .i64 ((n : Nat) : Int)) rfl rfl ?_
 refine rEnd 3 rfl (nxt (wp_seq (reg ?_)))
 refine rP 0 14 (.int .i64 ((n : Nat) : Int)) rfl rfl ?_
 refine rP 1 9 (.int .i64 0) rfl rfl ?_
 refine rP 2 10 (.int .i64 ((n : Nat) : Int)) rfl rfl ?_
 refine rEnd 3 rfl (nxt (wp_seq (wp_block ?_)))
 refine Wk.loop (fun m_ a wr => ∃ (i : Nat) (j : Nat), m_ = j - i ∧ a = Srch_F1 a.tmps (.slice A n c) (.func (.func 40) #[] #[]) (.pointer (some ⟨w.heap.size, 0, none⟩)) (.int .i64 ((n : Nat) : Int)) (.int .i64 ((i : Nat) : Int)) (.int .i64 ((j : Nat) : Int)) ∧ (i ≤ Mur.pos x L ∧ Mur.pos x L ≤ j ∧ j ≤ n) ∧ wr.heap[w.heap.size]? = some (.cells (Mur.attC x.k x.r x.n x.t).toArray 32 (0, 0)) ∧ Chg [] w wr) (n - 0) ?_ ?_
 ·have kk1 : Chg [] w W1 := Chg.step ((Chg.refl _).more (by simp)) ch1 trivial
  refine ⟨0, n, rfl, by kernel_rfl, ⟨by omega, by have := Mur.pos_le x L; have := hb.len; omega, Nat.le_refl _⟩, hb1, kk1⟩
 rintro mm1 aa1 W2 ⟨i, j, hmm1, hF1, hij, hbx, HC⟩
 generalize aa1.tmps = bb1 at hF1
 subst hF1
 have hzC := HC.size
 have hxl := (Array.getElem?_eq_some_iff.1 hbx).1
 by_cases hlt : i < j
 ·obtain ⟨g, off, rfl, _⟩ := hb.ex (by omega)
  obtain ⟨y, hy⟩ : ∃ y, L[(i + j) / 2]? = some y := ⟨_, List.getElem?_eq_getElem (by have := hb.len; omega)⟩
  by_cases hyx : y.lt x
  ·have hpo : (i + j) / 2 < Mur.pos x L := (Mur.pos_lt hs hy).1 hyx
   refine wp_seq (wp_seq (reg ?_))
   refine rP 0 15 (.int .i64 ((i : Nat) : Int)) rfl rfl ?_
   refine rP 1 16 (.int .i64 ((j : Nat) : Int)) rfl rfl ?_
   refine rQ 2 17 _ rfl rfl (qboolT (b := decide (((i : Nat) : Int) < ((j : Nat) : Int))) (decide_eq_true (by omega))) ?_
   refine rEnd 3 rfl (nxt (wp_cond_true (by kernel_rfl) (wp_skip (nxt (wp_block (wp_seq (reg ?_)))))))
   refine rP 0 18 (.int .i64 ((i : Nat) : Int)) rfl rfl ?_
   refine rP 1 19 (.int .i64 ((j : Nat) : Int)) rfl rfl ?_
   refine rQ 2 20 _ rfl rfl (qint64 (n := ((i : Nat) : Int) + ((j : Nat) : Int)) (z := ((i + j : Nat) : Int)) (by omega) (by omega) (by omega)) ?_
   refine rQ 3 21 (.int .u64 ((i + j : Nat) : Int)) rfl rfl (Mur.conv_int 3 109 (.tmp 20) rfl (by kernel_rfl) .u64 Tryd.underlying109 .i64 ((i + j : Nat) : Int) (by kernel_rfl) (Mur.u64_nat (by omega))) ?_
   refine rQ 4 22 (.int .u64 (((i + j) / 2 : Nat) : Int)) rfl rfl (Mur.shr64 109 109 (.tmp 21) (.const (.int .u64 1)) rfl (i + j) 1 .u64 (by kernel_rfl) (by kernel_rfl) (by omega) 2 rfl) ?_
   refine rQ 5 23 (.int .i64 (((i + j) / 2 : Nat) : Int)) rfl rfl (Mur.conv_int 109 3 (.tmp 22) rfl (by kernel_rfl) .i64 Tryd.underlying3 .u64 (((i + j) / 2 : Nat) : Int) (by kernel_rfl) (Mur.i64_nat (by omega))) ?_
   refine rP 6 11 (.int .i64 (((i + j) / 2 : Nat) : Int)) rfl rfl ?_
   refine rEnd 7 rfl (nxt (wp_seq ?_))
   refine dReg ([]) (by kernel_rfl) ?_
   intro W3 ch2 sz2
   have zz2 := ch2.size
   have sS1 : Chg ([]) W3 W3 := (Chg.refl _).more (by simp)
   refine dV 0 24 (.func (.func 40) #[] #[]) rfl rfl (fun _ _ => by kernel_rfl) sS1 ?_
   refine dV 1 25 (.slice (some ⟨g, off, none⟩) n c) rfl rfl (fun _ _ => by kernel_rfl) sS1 ?_
   refine dV 2 26 (.int .i64 (((i + j) / 2 : Nat) : Int)) rfl rfl (fun _ _ => by kernel_rfl) sS1 ?_
   refine dV 3 27 (.pointer (some ⟨g, off + ((i + j) / 2) * 97, none⟩)) rfl rfl (fun w' hw' => (index_sl 22 32 (.tmp 25) (.tmp 26) rfl Tryd.underlying22 97 (by kernel_rfl) g off n c ((i + j) / 2) .i64 (by kernel_rfl) (by kernel_rfl) (by omega))) sS1 ?_
   have kk2 := Chg.step HC ch2 trivial
   refine dV 4 28 (.agg ((Mur.attC y.k y.r y.n y.t).toArray)) rfl rfl (fun w' hw' => (loadR 32 (.tmp 27) rfl _ Tryd.underlying32 rfl g (off + ((i + j) / 2) * 97) (by kernel_rfl) (Mur.attC y.k y.r y.n y.t) (by rw [Mur.attC_length y.hk y.hr y.ht]; kernel_rfl) ((Mur.SlA.chg (Mur.SlA.chg hb kk2 (fun g off e hl => trivial)) hw' (fun g off e hl => trivial)).elem hy))) sS1 ?_
   refine dV 5 29 (.agg ((Mur.attC x.k x.r x.n x.t).toArray)) rfl rfl (fun w' hw' => (Mur.loadArr 32 (.tmp 4) rfl _ Tryd.underlying32 rfl w.heap.size (by kernel_rfl) (Mur.attC x.k x.r x.n x.t).toArray 97 (Mur.attC_size x.hk x.hr x.ht) (by kernel_rfl) 32 (0, 0) (Chg.hp hw' (Chg.hp ch2 hbx trivial) trivial))) sS1 ?_
   refine dOp 6 (by kernel_rfl) ?_
   refine Wk.oCallV (some 30) (.tmp 24) 40 #[] [.tmp 28, .tmp 29] #[32, 32] [.agg ((Mur.attC y.k y.r y.n y.t).toArray), .agg ((Mur.attC x.k x.r x.n x.t).toArray)] rfl rfl (by kernel_rfl) rfl (by kernel_rfl) (by kernel_rfl) (by kernel_rfl) ?_
   refine (compare_any y x W3).mono ?_
   rintro _ W4 ⟨rfl, ch3⟩
   have zz3 := ch3.size
   have sS2 := Chg.step sS1 ch3 trivial
   refine ⟨_, rfl, sS2, ?_⟩
   refine dV 7 31 (.bool true) rfl rfl (fun w' hw' => (boolT (b := decide ((Mur.cmpA y x) < (0 : Int))) (decide_eq_true ((Mur.cmpA_neg y x).2 hyx)) (by kernel_rfl))) sS2 ?_
   refine dEnd (by kernel_rfl) (nxt (wp_cond_true (by kernel_rfl) (reg ?_)))
   refine rP 0 32 (.int .i64 (((i + j) / 2 : Nat) : Int)) rfl rfl ?_
   refine rQ 1 33 _ rfl rfl (qint64 (n := (((i + j) / 2 : Nat) : Int) + 1) (z := (((i + j) / 2 + 1 : Nat) : Int)) (by omega) (by omega) (by omega)) ?_
   refine rP 2 9 (.int .i64 (((i + j) / 2 + 1 : Nat) : Int)) rfl rfl ?_
   refine rEnd 3 rfl (inN (nxt ?_))
   have kk3 := Chg.step kk2 ch3 trivial
   refine ⟨_, ?_, (i + j) / 2 + 1, j, rfl, by kernel_rfl, ⟨by omega, by omega, by omega⟩, (Chg.hp ch3 (Chg.hp ch2 hbx trivial) trivial), kk3⟩
   omega
  have hpo : ¬ ((i + j) / 2 < Mur.pos x L) := fun q => hyx ((Mur.pos_lt hs hy).2 q)
  refine wp_seq (wp_seq (reg ?_))
  refine rP 0 15 (.int .i64 ((i : Nat) : Int)) rfl rfl ?_
  refine rP 1 16 (.int .i64 ((j : Nat) : Int)) rfl rfl ?_
  refine rQ 2 17 _ rfl rfl (qboolT (b := decide (((i : Nat) : Int) < ((j : Nat) : Int))) (decide_eq_true (by omega))) ?_
  refine rEnd 3 rfl (nxt (wp_cond_true (by kernel_rfl) (wp_skip (nxt (wp_block (wp_seq (reg ?_)))))))
  refine rP 0 18 (.int .i64 ((i : Nat) : Int)) rfl rfl ?_
  refine rP 1 19 (.int .i64 ((j : Nat) : Int)) rfl rfl ?_
  refine rQ 2 20 _ rfl rfl (qint64 (n := ((i : Nat) : Int) + ((j : Nat) : Int)) (z := ((i + j : Nat) : Int)) (by omega) (by omega) (by omega)) ?_
  refine rQ 3 21 (.int .u64 ((i + j : Nat) : Int)) rfl rfl (Mur.conv_int 3 109 (.tmp 20) rfl (by kernel_rfl) .u64 Tryd.underlying109 .i64 ((i + j : Nat) : Int) (by kernel_rfl) (Mur.u64_nat (by omega))) ?_
  refine rQ 4 22 (.int .u64 (((i + j) / 2 : Nat) : Int)) rfl rfl (Mur.shr64 109 109 (.tmp 21) (.const (.int .u64 1)) rfl (i + j) 1 .u64 (by kernel_rfl) (by kernel_rfl) (by omega) 2 rfl) ?_
  refine rQ 5 23 (.int .i64 (((i + j) / 2 : Nat) : Int)) rfl rfl (Mur.conv_int 109 3 (.tmp 22) rfl (by kernel_rfl) .i64 Tryd.underlying3 .u64 (((i + j) / 2 : Nat) : Int) (by kernel_rfl) (Mur.i64_nat (by omega))) ?_
  refine rP 6 11 (.int .i64 (((i + j) / 2 : Nat) : Int)) rfl rfl ?_
  refine rEnd 7 rfl (nxt (wp_seq ?_))
  refine dReg ([]) (by kernel_rfl) ?_
  intro W5 ch4 sz3
  have zz4 := ch4.size
  have sS3 : Chg ([]) W5 W5 := (Chg.refl _).more (by simp)
  refine dV 0 24 (.func (.func 40) #[] #[]) rfl rfl (fun _ _ => by kernel_rfl) sS3 ?_
  refine dV 1 25 (.slice (some ⟨g, off, none⟩) n c) rfl rfl (fun _ _ => by kernel_rfl) sS3 ?_
  refine dV 2 26 (.int .i64 (((i + j) / 2 : Nat) : Int)) rfl rfl (fun _ _ => by kernel_rfl) sS3 ?_
  refine dV 3 27 (.pointer (some ⟨g, off + ((i + j) / 2) * 97, none⟩)) rfl rfl (fun w' hw' => (index_sl 22 32 (.tmp 25) (.tmp 26) rfl Tryd.underlying22 97 (by kernel_rfl) g off n c ((i + j) / 2) .i64 (by kernel_rfl) (by kernel_rfl) (by omega))) sS3 ?_
  have kk4 := Chg.step HC ch4 trivial
  refine dV 4 28 (.agg ((Mur.attC y.k y.r y.n y.t).toArray)) rfl rfl (fun w' hw' => (loadR 32 (.tmp 27) rfl _ Tryd.underlying32 rfl g (off + ((i + j) / 2) * 97) (by kernel_rfl) (Mur.attC y.k y.r y.n y.t) (by rw [Mur.attC_length y.hk y.hr y.ht]; kernel_rfl) ((Mur.SlA.chg (Mur.SlA.chg hb kk4 (fun g off e hl => trivial)) hw' (fun g off e hl => trivial)).elem hy))) sS3 ?_
  refine dV 5 29 (.agg ((Mur.attC x.k x.r x.n x.t).toArray)) rfl rfl (fun w' hw' => (Mur.loadArr 32 (.tmp 4) rfl _ Tryd.underlying32 rfl w.heap.size (by kernel_rfl) (Mur.attC x.k x.r x.n x.t).toArray 97 (Mur.attC_size x.hk x.hr x.ht) (by kernel_rfl) 32 (0, 0) (Chg.hp hw' (Chg.hp ch4 hbx trivial) trivial))) sS3 ?_
  refine dOp 6 (by kernel_rfl) ?_
  refine Wk.oCallV (some 30) (.tmp 24) 40 #[] [.tmp 28, .tmp 29] #[32, 32] [.agg ((Mur.attC y.k y.r y.n y.t).toArray), .agg ((Mur.attC x.k x.r x.n x.t).toArray)] rfl rfl (by kernel_rfl) rfl (by kernel_rfl) (by kernel_rfl) (by kernel_rfl) ?_
  refine (compare_any y x W5).mono ?_
  rintro _ W6 ⟨rfl, ch5⟩
  have zz5 := ch5.size
  have sS4 := Chg.step sS3 ch5 trivial
  refine ⟨_, rfl, sS4, ?_⟩
  refine dV 7 31 (.bool false) rfl rfl (fun w' hw' => (boolF (b := decide ((Mur.cmpA y x) < (0 : Int))) (decide_eq_false (fun q => hyx ((Mur.cmpA_neg y x).1 q))) (by kernel_rfl))) sS4 ?_
  refine dEnd (by kernel_rfl) (nxt (wp_cond_false (by kernel_rfl) (reg ?_)))
  refine rP 0 34 (.int .i64 (((i + j) / 2 : Nat) : Int)) rfl rfl ?_
  refine rP 1 10 (.int .i64 (((i + j) / 2 : Nat) : Int)) rfl rfl ?_
  refine rEnd 2 rfl (inN (nxt ?_))
  have kk5 := Chg.step kk4 ch5 trivial
  refine ⟨_, ?_, i, (i + j) / 2, rfl, by kernel_rfl, ⟨by omega, by omega, by omega⟩, (Chg.hp ch5 (Chg.hp ch4 hbx trivial) trivial), kk5⟩
  omega
 have hip : Mur.pos x L = i := by omega
 by_cases hin : i < n
 ·obtain ⟨g, off, rfl, _⟩ := hb.ex (by omega)
  obtain ⟨y, hy⟩ : ∃ y, L[i]? = some y := ⟨_, List.getElem?_eq_getElem (by have := hb.len; omega)⟩
  by_cases hyx : y = x
  ·have hmem : (x ∈ L) := (Mur.pos_mem hs).2 (by rw [hip, hy, hyx])
   refine wp_seq (wp_seq (reg ?_))
   refine rP 0 15 (.int .i64 ((i : Nat) : Int)) rfl rfl ?_
   refine rP 1 16 (.int .i64 ((j : Nat) : Int)) rfl rfl ?_
   refine rQ 2 17 _ rfl rfl (qboolF (b := decide (((i : Nat) : Int) < ((j : Nat) : Int))) (decide_eq_false (by omega))) ?_
   refine rEnd 3 rfl (nxt (wp_cond_false (by kernel_rfl) (wp_exit (thX (thX (inX (nxt (wp_seq ?_))))))))
   refine dReg ([]) (by kernel_rfl) ?_
   intro W7 ch6 sz4
   have zz6 := ch6.size
   have sS5 : Chg ([]) W7 W7 := (Chg.refl _).more (by simp)
   refine dV 0 35 (.int .i64 ((i : Nat) : Int)) rfl rfl (fun _ _ => by kernel_rfl) sS5 ?_
   refine dV 1 36 (.int .i64 ((i : Nat) : Int)) rfl rfl (fun _ _ => by kernel_rfl) sS5 ?_
   refine dV 2 37 (.int .i64 ((n : Nat) : Int)) rfl rfl (fun _ _ => by kernel_rfl) sS5 ?_
   refine dV 3 38 (.bool true) rfl rfl (fun w' hw' => (boolT (b := decide (((i : Nat) : Int) < ((n : Nat) : Int))) (decide_eq_true (by omega)) (by kernel_rfl))) sS5 ?_
   refine dV 4 39 (.bool true) rfl rfl (fun _ _ => by kernel_rfl) sS5 ?_
   refine dV 5 40 (.func (.func 40) #[] #[]) rfl rfl (fun _ _ => by kernel_rfl) sS5 ?_
   refine dV 6 41 (.slice (some ⟨g, off, none⟩) n c) rfl rfl (fun _ _ => by kernel_rfl) sS5 ?_
   refine dV 7 42 (.int .i64 ((i : Nat) : Int)) rfl rfl (fun _ _ => by kernel_rfl) sS5 ?_
   refine dV 8 43 (.pointer (some ⟨g, off + i * 97, none⟩)) rfl rfl (fun w' hw' => (index_sl 22 32 (.tmp 41) (.tmp 42) rfl Tryd.underlying22 97 (by kernel_rfl) g off n c i .i64 (by kernel_rfl) (by kernel_rfl) (by omega))) sS5 ?_
   have kk6 := Chg.step HC ch6 trivial
   refine dV 9 44 (.agg ((Mur.attC y.k y.r y.n y.t).toArray)) rfl rfl (fun w' hw' => (loadR 32 (.tmp 43) rfl _ Tryd.underlying32 rfl g (off + i * 97) (by kernel_rfl) (Mur.attC y.k y.r y.n y.t) (by rw [Mur.attC_length y.hk y.hr y.ht]; kernel_rfl) ((Mur.SlA.chg (Mur.SlA.chg hb kk6 (fun g off e hl => trivial)) hw' (fun g off e hl => trivial)).elem hy))) sS5 ?_
   refine dV 10 45 (.agg ((Mur.attC x.k x.r x.n x.t).toArray)) rfl rfl (fun w' hw' => (Mur.loadArr 32 (.tmp 4) rfl _ Tryd.underlying32 rfl w.heap.size (by kernel_rfl) (Mur.attC x.k x.r x.n x.t).toArray 97 (Mur.attC_size x.hk x.hr x.ht) (by kernel_rfl) 32 (0, 0) (Chg.hp hw' (Chg.hp ch6 hbx trivial) trivial))) sS5 ?_
   refine dOp 11 (by kernel_rfl) ?_
   refine Wk.oCallV (some 46) (.tmp 40) 40 #[] [.tmp 44, .tmp 45] #[32, 32] [.agg ((Mur.attC y.k y.r y.n y.t).toArray), .agg ((Mur.attC x.k x.r x.n x.t).toArray)] rfl rfl (by kernel_rfl) rfl (by kernel_rfl) (by kernel_rfl) (by kernel_rfl) ?_
   refine (compare_any y x W7).mono ?_
   rintro _ W8 ⟨rfl, ch7⟩
   have zz7 := ch7.size
   have sS6 := Chg.step sS5 ch7 trivial
   refine ⟨_, rfl, sS6, ?_⟩
   refine dV 12 47 (.bool true) rfl rfl (fun w' hw' => (boolT (b := ((Mur.cmpA y x) == (0 : Int))) (beq_iff_eq.2 ((Mur.cmpA_zero y x).2 hyx)) (by kernel_rfl))) sS6 ?_
   refine dV 13 48 (.bool true) rfl rfl (fun _ _ => by kernel_rfl) sS6 ?_
   refine dV 14 6 (.int .i64 ((i : Nat) : Int)) rfl rfl (fun _ _ => by kernel_rfl) sS6 ?_
   refine dV 15 7 (.bool true) rfl rfl (fun _ _ => by kernel_rfl) sS6 ?_
   refine dEnd (by kernel_rfl) (nxt (wp_ret ?_))
   have kk7 := Chg.step kk6 ch7 trivial
   refine Wk.ret (.tuple #[.int .i64 ((i : Nat) : Int), .bool true]) rfl (by kernel_rfl) ?_
   exact ⟨by rw [hip, decide_eq_true hmem], kk7⟩
  have hmem : ¬ (x ∈ L) := fun q => hyx (by have h1 := (Mur.pos_mem hs).1 q; rw [hip, hy] at h1; exact Option.some.inj h1)
  refine wp_seq (wp_seq (reg ?_))
  refine rP 0 15 (.int .i64 ((i : Nat) : Int)) rfl rfl ?_
  refine rP 1 16 (.int .i64 ((j : Nat) : Int)) rfl rfl ?_
  refine rQ 2 17 _ rfl rfl (qboolF (b := decide (((i : Nat) : Int) < ((j : Nat) : Int))) (decide_eq_false (by omega))) ?_
  refine rEnd 3 rfl (nxt (wp_cond_false (by kernel_rfl) (wp_exit (thX (thX (inX (nxt (wp_seq ?_))))))))
  refine dReg ([]) (by kernel_rfl) ?_
  intro W10 ch8 sz5
  have zz8 := ch8.size
  have sS7 : Chg ([]) W10 W10 := (Chg.refl _).more (by simp)
  refine dV 0 35 (.int .i64 ((i : Nat) : Int)) rfl rfl (fun _ _ => by kernel_rfl) sS7 ?_
  refine dV 1 36 (.int .i64 ((i : Nat) : Int)) rfl rfl (fun _ _ => by kernel_rfl) sS7 ?_
  refine dV 2 37 (.int .i64 ((n : Nat) : Int)) rfl rfl (fun _ _ => by kernel_rfl) sS7 ?_
  refine dV 3 38 (.bool true) rfl rfl (fun w' hw' => (boolT (b := decide (((i : Nat) : Int) < ((n : Nat) : Int))) (decide_eq_true (by omega)) (by kernel_rfl))) sS7 ?_
  refine dV 4 39 (.bool true) rfl rfl (fun _ _ => by kernel_rfl) sS7 ?_
  refine dV 5 40 (.func (.func 40) #[] #[]) rfl rfl (fun _ _ => by kernel_rfl) sS7 ?_
  refine dV 6 41 (.slice (some ⟨g, off, none⟩) n c) rfl rfl (fun _ _ => by kernel_rfl) sS7 ?_
  refine dV 7 42 (.int .i64 ((i : Nat) : Int)) rfl rfl (fun _ _ => by kernel_rfl) sS7 ?_
  refine dV 8 43 (.pointer (some ⟨g, off + i * 97, none⟩)) rfl rfl (fun w' hw' => (index_sl 22 32 (.tmp 41) (.tmp 42) rfl Tryd.underlying22 97 (by kernel_rfl) g off n c i .i64 (by kernel_rfl) (by kernel_rfl) (by omega))) sS7 ?_
  have kk8 := Chg.step HC ch8 trivial
  refine dV 9 44 (.agg ((Mur.attC y.k y.r y.n y.t).toArray)) rfl rfl (fun w' hw' => (loadR 32 (.tmp 43) rfl _ Tryd.underlying32 rfl g (off + i * 97) (by kernel_rfl) (Mur.attC y.k y.r y.n y.t) (by rw [Mur.attC_length y.hk y.hr y.ht]; kernel_rfl) ((Mur.SlA.chg (Mur.SlA.chg hb kk8 (fun g off e hl => trivial)) hw' (fun g off e hl => trivial)).elem hy))) sS7 ?_
  refine dV 10 45 (.agg ((Mur.attC x.k x.r x.n x.t).toArray)) rfl rfl (fun w' hw' => (Mur.loadArr 32 (.tmp 4) rfl _ Tryd.underlying32 rfl w.heap.size (by kernel_rfl) (Mur.attC x.k x.r x.n x.t).toArray 97 (Mur.attC_size x.hk x.hr x.ht) (by kernel_rfl) 32 (0, 0) (Chg.hp hw' (Chg.hp ch8 hbx trivial) trivial))) sS7 ?_
  refine dOp 11 (by kernel_rfl) ?_
  refine Wk.oCallV (some 46) (.tmp 40) 40 #[] [.tmp 44, .tmp 45] #[32, 32] [.agg ((Mur.attC y.k y.r y.n y.t).toArray), .agg ((Mur.attC x.k x.r x.n x.t).toArray)] rfl rfl (by kernel_rfl) rfl (by kernel_rfl) (by kernel_rfl) (by kernel_rfl) ?_
  refine (compare_any y x W10).mono ?_
  rintro _ W11 ⟨rfl, ch9⟩
  have zz9 := ch9.size
  have sS8 := Chg.step sS7 ch9 trivial
  refine ⟨_, rfl, sS8, ?_⟩
  refine dV 12 47 (.bool false) rfl rfl (fun w' hw' => (boolF (b := ((Mur.cmpA y x) == (0 : Int))) (beq_eq_false_iff_ne.2 (fun q => hyx ((Mur.cmpA_zero y x).1 q))) (by kernel_rfl))) sS8 ?_
  refine dV 13 48 (.bool false) rfl rfl (fun _ _ => by kernel_rfl) sS8 ?_
  refine dV 14 6 (.int .i64 ((i : Nat) : Int)) rfl rfl (fun _ _ => by kernel_rfl) sS8 ?_
  refine dV 15 7 (.bool false) rfl rfl (fun _ _ => by kernel_rfl) sS8 ?_
  refine dEnd (by kernel_rfl) (nxt (wp_ret ?_))
  have kk9 := Chg.step kk8 ch9 trivial
  refine Wk.ret (.tuple #[.int .i64 ((i : Nat) : Int), .bool false]) rfl (by kernel_rfl) ?_
  exact ⟨by rw [hip, decide_eq_false hmem], kk9⟩
 have hmem : ¬ (x ∈ L) := fun q => by have h1 := (Mur.pos_mem hs).1 q; rw [hip, List.getElem?_eq_none (by have := hb.len; omega)] at h1; cases h1
 refine wp_seq (wp_seq (reg ?_))
 refine rP 0 15 (.int .i64 ((i : Nat) : Int)) rfl rfl ?_
 refine rP 1 16 (.int .i64 ((j : Nat) : Int)) rfl rfl ?_
 refine rQ 2 17 _ rfl rfl (qboolF (b := decide (((i : Nat) : Int) < ((j : Nat) : Int))) (decide_eq_false (by omega))) ?_
 refine rEnd 3 rfl (nxt (wp_cond_false (by kernel_rfl) (wp_exit (thX (thX (inX (nxt (wp_seq ?_))))))))
 refine dReg ([]) (by kernel_rfl) ?_
 intro W12 ch10 sz6
 have zz10 := ch10.size
 have sS9 : Chg ([]) W12 W12 := (Chg.refl _).more (by simp)
 refine dV 0 35 (.int .i64 ((i : Nat) : Int)) rfl rfl (fun _ _ => by kernel_rfl) sS9 ?_
 refine dV 1 36 (.int .i64 ((i : Nat) : Int)) rfl rfl (fun _ _ => by kernel_rfl) sS9 ?_
 refine dV 2 37 (.int .i64 ((n : Nat) : Int)) rfl rfl (fun _ _ => by kernel_rfl) sS9 ?_
 refine dV 3 38 (.bool false) rfl rfl (fun w' hw' => (boolF (b := decide (((i : Nat) : Int) < ((n : Nat) : Int))) (decide_eq_false (by omega)) (by kernel_rfl))) sS9 ?_
 refine dV 4 39 (.bool false) rfl rfl (fun _ _ => by kernel_rfl) sS9 ?_
 refine Wk.dPass 5 (some 40) rfl rfl (by kernel_rfl) (by kernel_rfl) (by kernel_rfl) (fun _ _ _ h => h) (by kernel_rfl) sS9 ?_
 refine Wk.dPass 6 (some 41) rfl rfl (by kernel_rfl) (by kernel_rfl) (by kernel_rfl) (fun _ _ _ h => h) (by kernel_rfl) sS9 ?_
 refine Wk.dPass 7 (some 42) rfl rfl (by kernel_rfl) (by kernel_rfl) (by kernel_rfl) (fun _ _ _ h => h) (by kernel_rfl) sS9 ?_
 refine Wk.dPass 8 (some 43) rfl rfl (by kernel_rfl) (by kernel_rfl) (by kernel_rfl) (fun _ _ _ h => h) (by kernel_rfl) sS9 ?_
 refine Wk.dPass 9 (some 44) rfl rfl (by kernel_rfl) (by kernel_rfl) (by kernel_rfl) (fun _ _ _ h => h) (by kernel_rfl) sS9 ?_
 refine Wk.dPass 10 (some 45) rfl rfl (by kernel_rfl) (by kernel_rfl) (by kernel_rfl) (fun _ _ _ h => h) (by kernel_rfl) sS9 ?_
 refine Wk.dPass 11 (some 46) rfl rfl (by kernel_rfl) (by kernel_rfl) (by kernel_rfl) (fun _ _ _ h => h) (by kernel_rfl) sS9 ?_
 refine Wk.dPass 12 (some 47) rfl rfl (by kernel_rfl) (by kernel_rfl) (by kernel_rfl) (fun _ _ _ h => h) (by kernel_rfl) sS9 ?_
 refine dV 13 48 (.bool false) rfl rfl (fun _ _ => by kernel_rfl) sS9 ?_
 refine dV 14 6 (.int .i64 ((i : Nat) : Int)) rfl rfl (fun _ _ => by kernel_rfl) sS9 ?_
 refine dV 15 7 (.bool false) rfl rfl (fun _ _ => by kernel_rfl) sS9 ?_
 refine dEnd (by kernel_rfl) (nxt (wp_ret ?_))
 have kk10 := Chg.step HC ch10 trivial
 refine Wk.ret (.tuple #[.int .i64 ((i : Nat) : Int), .bool false]) rfl (by kernel_rfl) ?_
 exact ⟨by rw [hip, decide_eq_false hmem], kk10⟩
end Go.Proofs.YtfhneademopciaaDoor
namespace Go.Proofs.YtfhneademopciaaDoor
open Go.RowKit Wk
open Mur (b8s Byt Own8 Seg Segs flat cutA attC Att SlA OwnA rowA)
set_option maxRecDepth 100000
set_option maxHeartbeats 4000000
theorem Insert_app (L : List Att) (base : Nat) (A : Option Addr) (n c : Nat) (x : Att) (q : Nat) (w : World) (h : OwnA w base 32 A n c L) (hn : n ≤ 100000) (hbase : base ≤ w.heap.size) (hq : w.heap[q]? = some (.cells (attC x.k x.r x.n x.t).toArray 32 (0, 0))) (_hqA : ∀ g, (Value.slice A n c).ownBlock = some g → g ≠ q) : Calls Tryd.prog 41 #[.slice A n c, .int .i64 ((n : Nat) : Int), .slice (some ⟨q, 0, none⟩) 1 1] w fun e w' => ∃ A1 c1, e = .returned (.slice A1 (n + 1) c1) ∧ OwnA w' base 32 A1 (n + 1) c1 (L.take n ++ x :: L.drop n) ∧ Chg (Wk.blk (.slice A n c)) w w' ∧ (∀ q', (Value.slice A1 (n + 1) c1).ownBlock = some q' → (Value.slice A n c).ownBlock = some q' ∨ w.heap.size ≤ q') := by
 have hl := h.sl.len
 have hcn := h.nc
 have hcmx := h.cm
 have hql := (Array.getElem?_eq_some_iff.1 hq).1
 refine calls_of_wp Tryd.func41 rfl ?_
 refine wp_seq (reg ?_)
 refine rP 0 6 (.slice none 0 0) rfl rfl ?_
 refine rEnd 1 rfl (nxt (wp_seq (reg ?_)))
 refine rP 0 10 (.slice A n c) rfl rfl ?_
 refine rP 1 11 (.int .i64 ((n : Nat) : Int)) rfl rfl ?_
 refine rQ 2 12 (.slice (if c = n then A else (A : Option Addr).map (·.add (n * 97))) (n - n) (c - n)) rfl rfl (Mur.run_fromK 22 (.tmp 10) (.tmp 11) rfl 32 Tryd.underlying22 97 (by kernel_rfl) A n c n (by kernel_rfl) (by kernel_rfl) (by omega) _ rfl) ?_
 refine rEnd 3 rfl (nxt (wp_seq (reg ?_)))
 refine rP 0 13 (.slice (some ⟨q, 0, none⟩) 1 1) rfl rfl ?_
 refine rP 1 14 (.int .i64 1) rfl rfl ?_
 refine rP 2 7 (.int .i64 1) rfl rfl ?_
 refine rEnd 3 rfl (nxt (wp_seq (wp_seq (reg ?_))))
 refine rP 0 15 (.int .i64 1) rfl rfl ?_
 refine rQ 1 16 _ rfl rfl (qboolF (b := ((1 : Int) == (0 : Int))) (beq_eq_false_iff_ne.2 (by decide))) ?_
 refine rEnd 2 rfl (nxt (wp_cond_false (by kernel_rfl) (wp_skip (nxt (wp_seq (reg ?_))))))
 refine rP 0 18 (.slice A n c) rfl rfl ?_
 refine rP 1 19 (.int .i64 ((n : Nat) : Int)) rfl rfl ?_
 refine rP 2 8 (.int .i64 ((n : Nat) : Int)) rfl rfl ?_
 refine rEnd 3 rfl (nxt (wp_seq (wp_seq (reg ?_))))
 refine rP 0 20 (.int .i64 ((n : Nat) : Int)) rfl rfl ?_
 refine rP 1 21 (.int .i64 ((n : Nat) : Int)) rfl rfl ?_
 refine rQ 2 22 _ rfl rfl (qboolT (b := (((n : Nat) : Int) == ((n : Nat) : Int))) (beq_iff_eq.2 (rfl))) ?_
 refine rEnd 3 rfl (nxt (wp_cond_true (by kernel_rfl) (wp_seq (reg ?_))))
 refine rP 0 23 (.slice A n c) rfl rfl ?_
 refine rP 1 24 (.slice (some ⟨q, 0, none⟩) 1 1) rfl rfl ?_
 refine rX 2 25 rfl rfl (Mur.appendA (.tmp 23) (.tmp 24) 22 32 rfl Tryd.underlying22 attI base A n c L (some ⟨q, 0, none⟩) 1 1 ([x]) (by kernel_rfl) (by kernel_rfl) h (Mur.slA_box x hq) (fun h => by cases h) (by omega) (by omega) (n + 1) (by omega) (L ++ ([x])) rfl) ?_
 rintro _ W1 ⟨AA1, nn1, rfl, ow1, ch1, ha1⟩
 have zz1 := ch1.size
 have hq1 := ow1.nc
 have hq2 := ow1.cm
 refine rP 3 6 (.slice AA1 (n + 1) nn1) rfl rfl ?_
 refine rEnd 4 rfl (nxt (wp_ret (thR ?_)))
 have kk1 : Chg (Wk.blk (.slice A n c)) (w) W1 := Chg.step ((Chg.refl _).more (by simp)) ch1 (Mur.newOr_iff.2 (fun t ht => .inl ht))
 refine Wk.ret (.slice AA1 (n + 1) nn1) rfl (by kernel_rfl) ?_
 exact ⟨_, _, rfl, by have h_ := ow1; rw [← List.take_append_drop n L, List.drop_of_length_le (Nat.le_of_eq hl)] at h_; simpa [List.take_of_length_le (Nat.le_of_eq hl), List.drop_of_length_le (Nat.le_of_eq hl)] using h_, kk1, fun q' h1 => (ha1 q' h1).imp (fun h => h) (fun h => by omega)⟩
theorem Insert_in (L : List Att) (base : Nat) (A : Option Addr) (n c i : Nat) (x : Att) (q : Nat) (w : World) (h : OwnA w base 32 A n c L) (hn : n ≤ 100000) (_hbase : base ≤ w.heap.size) (hq : w.heap[q]? = some (.cells (attC x.k x.r x.n x.t).toArray 32 (0, 0))) (hqA : ∀ g, (Value.slice A n c).ownBlock = some g → g ≠ q) (hi : i < n) (hc : n + 1 ≤ c) : Calls Tryd.prog 41 #[.slice A n c, .int .i64 ((i : Nat) : Int), .slice (some ⟨q, 0, none⟩) 1 1] w fun e w' => ∃ A1 c1, e = .returned (.slice A1 (n + 1) c1) ∧ OwnA w' base 32 A1 (n + 1) c1 (L.take i ++ x :: L.drop i) ∧ Chg (Wk.blk (.slice A n c)) w w' ∧ (∀ q', (Value.slice A1 (n + 1) c1).ownBlock = some q' → (Value.slice A n c).ownBlock = some q' ∨ w.heap.size ≤ q') := by
 have hl := h.sl.len
 have hcn := h.nc
 have hcmx := h.cm
 have hql := (Array.getElem?_eq_some_iff.1 hq).1
 obtain ⟨g, cur, rfl, hbg, hg, hcs, htk⟩ := h.cur.resolve_left (fun q => by omega)
 have hqg : q ≠ g := fun e => hqA g rfl e.symm
 have htq : cur.toList.take (i * 97) = Mur.rowA (L.take i) := by rw [Mur.rowA_take, ← htk, List.take_take, Nat.min_eq_left (by omega)]
 have hgl := (Array.getElem?_eq_some_iff.1 hg).1
 have htp := htq
 refine calls_of_wp Tryd.func41 rfl ?_
 refine wp_seq (reg ?_)
 refine rP 0 6 (.slice none 0 0) rfl rfl ?_
 refine rEnd 1 rfl (nxt (wp_seq (reg ?_)))
 refine rP 0 10 (.slice (some ⟨g, 0, none⟩) n c) rfl rfl ?_
 refine rP 1 11 (.int .i64 ((i : Nat) : Int)) rfl rfl ?_
 refine rQ 2 12 (.slice (if c = i then some ⟨g, 0, none⟩ else (some ⟨g, 0, none⟩ : Option Addr).map (·.add (i * 97))) (n - i) (c - i)) rfl rfl (Mur.run_fromK 22 (.tmp 10) (.tmp 11) rfl 32 Tryd.underlying22 97 (by kernel_rfl) (some ⟨g, 0, none⟩) n c i (by kernel_rfl) (by kernel_rfl) (by omega) _ rfl) ?_
 refine rEnd 3 rfl (nxt (wp_seq (reg ?_)))
 refine rP 0 13 (.slice (some ⟨q, 0, none⟩) 1 1) rfl rfl ?_
 refine rP 1 14 (.int .i64 1) rfl rfl ?_
 refine rP 2 7 (.int .i64 1) rfl rfl ?_
 refine rEnd 3 rfl (nxt (wp_seq (wp_seq (reg ?_))))
 refine rP 0 15 (.int .i64 1) rfl rfl ?_
 refine rQ 1 16 _ rfl rfl (qboolF (b := ((1 : Int) == (0 : Int))) (beq_eq_false_iff_ne.2 (by decide))) ?_
 refine rEnd 2 rfl (nxt (wp_cond_false (by kernel_rfl) (wp_skip (nxt (wp_seq (reg ?_))))))
 refine rP 0 18 (.slice (some ⟨g, 0, none⟩) n c) rfl rfl ?_
 refine rP 1 19 (.int .i64 ((n : Nat) : Int)) rfl rfl ?_
 refine rP 2 8 (.int .i64 ((n : Nat) : Int)) rfl rfl ?_
 refine rEnd 3 rfl (nxt (wp_seq (wp_seq (reg ?_))))
 refine rP 0 20 (.int .i64 ((i : Nat) : Int)) rfl rfl ?_
 refine rP 1 21 (.int .i64 ((n : Nat) : Int)) rfl rfl ?_
 refine rQ 2 22 _ rfl rfl (qboolF (b := (((i : Nat) : Int) == ((n : Nat) : Int))) (beq_eq_false_iff_ne.2 (by omega))) ?_
 refine rEnd 3 rfl (nxt (wp_cond_false (by kernel_rfl) (wp_skip (nxt (wp_seq (wp_seq (reg ?_)))))))
 refine rP 0 26 (.int .i64 ((n : Nat) : Int)) rfl rfl ?_
 refine rP 1 27 (.int .i64 1) rfl rfl ?_
 refine rQ 2 28 _ rfl rfl (qint64 (n := ((n : Nat) : Int) + 1) (z := ((n + 1 : Nat) : Int)) (by omega) (by omega) (by omega)) ?_
 refine rP 3 29 (.slice (some ⟨g, 0, none⟩) n c) rfl rfl ?_
 refine rP 4 30 (.int .i64 ((c : Nat) : Int)) rfl rfl ?_
 refine rQ 5 31 _ rfl rfl (qboolF (b := decide (((n + 1 : Nat) : Int) > ((c : Nat) : Int))) (decide_eq_false (by omega))) ?_
 refine rEnd 6 rfl (nxt (wp_cond_false (by kernel_rfl) (wp_skip (nxt (wp_seq (reg ?_))))))
 refine rP 0 56 (.slice (some ⟨g, 0, none⟩) n c) rfl rfl ?_
 refine rP 1 57 (.int .i64 ((n : Nat) : Int)) rfl rfl ?_
 refine rP 2 58 (.int .i64 1) rfl rfl ?_
 refine rQ 3 59 _ rfl rfl (qint64 (n := ((n : Nat) : Int) + 1) (z := ((n + 1 : Nat) : Int)) (by omega) (by omega) (by omega)) ?_
 refine rQ 4 60 (.slice (some ⟨g, 0, none⟩) (n + 1) c) rfl rfl (Mur.run_toK 22 (.tmp 56) (.tmp 59) rfl 32 Tryd.underlying22 97 (by kernel_rfl) (some ⟨g, 0, none⟩) n c (n + 1) (.inr ⟨_, _, rfl⟩) (by kernel_rfl) (by kernel_rfl) (by omega)) ?_
 refine rP 5 0 (.slice (some ⟨g, 0, none⟩) (n + 1) c) rfl rfl ?_
 refine rEnd 6 rfl (nxt (wp_seq (wp_seq (reg ?_))))
 refine rP 0 61 (.slice (some ⟨q, 0, none⟩) 1 1) rfl rfl ?_
 refine rP 1 62 (.slice (some ⟨g, 0, none⟩) (n + 1) c) rfl rfl ?_
 refine rP 2 63 (.int .i64 ((i : Nat) : Int)) rfl rfl ?_
 refine rP 3 64 (.int .i64 1) rfl rfl ?_
 refine rQ 4 65 _ rfl rfl (qint64 (n := ((i : Nat) : Int) + 1) (z := ((i + 1 : Nat) : Int)) (by omega) (by omega) (by omega)) ?_
 refine rQ 5 66 (.slice (some ⟨g, 0 + (i + 1) * 97, none⟩) (n - i) (c - (i + 1))) rfl rfl (Mur.run_fromS 22 (.tmp 62) (.tmp 65) rfl 32 Tryd.underlying22 97 (by kernel_rfl) g 0 (n + 1) c (i + 1) (by kernel_rfl) (by kernel_rfl) (by omega) (by omega) (n - i) (by omega)) ?_
 refine rQ 6 67 (.bool false) rfl rfl (Mur.run_ovl (tS := 22) (tR := 4) (e := 32) Tryd.func62 (by kernel_rfl) (by kernel_rfl) (by kernel_rfl) (by kernel_rfl) Tryd.underlying22 attI (.tmp 61) (.tmp 66) _ rfl q g (0 + (i + 1) * 97) 1 1 (n - i) (c - (i + 1)) (by kernel_rfl) (by kernel_rfl) hqg _ _ _ _ hq hg (by omega)) ?_
 refine rP 7 68 (.bool true) rfl rfl ?_
 refine rEnd 8 rfl (nxt (wp_cond_true (by kernel_rfl) (wp_seq ?_)))
 refine dReg ([g]) (by kernel_rfl) ?_
 intro W1 ch1 sz1
 have zz1 := ch1.size
 have sS1 : Chg ([g]) W1 W1 := (Chg.refl _).more (by simp)
 refine dV 0 69 (.slice (some ⟨g, 0, none⟩) (n + 1) c) rfl rfl (fun _ _ => by kernel_rfl) sS1 ?_
 refine dV 1 70 (.int .i64 ((i : Nat) : Int)) rfl rfl (fun _ _ => by kernel_rfl) sS1 ?_
 refine dV 2 71 (.int .i64 1) rfl rfl (fun _ _ => by kernel_rfl) sS1 ?_
 refine dV 3 72 (.int .i64 ((i + 1 : Nat) : Int)) rfl rfl (fun w' hw' => (int64 (n := ((i : Nat) : Int) + 1) (z := ((i + 1 : Nat) : Int)) (by omega) (by omega) (by omega) (by kernel_rfl))) sS1 ?_
 refine dV 4 73 (.slice (some ⟨g, 0 + (i + 1) * 97, none⟩) (n - i) (c - (i + 1))) rfl rfl (fun w' hw' => (Mur.run_fromS 22 (.tmp 69) (.tmp 72) rfl 32 Tryd.underlying22 97 (by kernel_rfl) g 0 (n + 1) c (i + 1) (by kernel_rfl) (by kernel_rfl) (by omega) (by omega) (n - i) (by omega))) sS1 ?_
 refine dV 5 74 (.slice (some ⟨g, 0, none⟩) (n + 1) c) rfl rfl (fun _ _ => by kernel_rfl) sS1 ?_
 refine dV 6 75 (.int .i64 ((i : Nat) : Int)) rfl rfl (fun _ _ => by kernel_rfl) sS1 ?_
 refine dV 7 76 (.slice (some ⟨g, 0 + i * 97, none⟩) (n + 1 - i) (c - i)) rfl rfl (fun w' hw' => (Mur.run_fromS 22 (.tmp 74) (.tmp 75) rfl 32 Tryd.underlying22 97 (by kernel_rfl) g 0 (n + 1) c i (by kernel_rfl) (by kernel_rfl) (by omega) (by omega) (n + 1 - i) (by omega))) sS1 ?_
 refine dOp 8 (by kernel_rfl) ?_
 have hfit1 : 0 + (i + 1) * 97 + (Mur.rowA (L.drop i)).length ≤ c * 97 := by simp only [Mur.rowA_len, List.length_drop]; omega
 obtain ⟨Rw1, hRw1⟩ : ∃ R, R = Go.splice cur.toList (0 + (i + 1) * 97) (Mur.rowA (L.drop i)) := ⟨_, rfl⟩
 have hRl1 : Rw1.length = c * 97 := by rw [hRw1]; exact Mur.splice_len hfit1 (by rw [Array.length_toList]; exact hcs)
 refine oEx (some 77) _ rfl rfl (by kernel_rfl) (Mur.copyK (.tmp 73) (.tmp 76) 22 22 rfl 32 Tryd.underlying22 97 (by kernel_rfl) g (0 + (i + 1) * 97) (n - i) (c - (i + 1)) (by kernel_rfl) g (0 + i * 97) (n + 1 - i) (c - i) (by kernel_rfl) (n - i) (Nat.min_eq_right (by omega)) 32 cur (Mur.rowA (L.drop i)) (Chg.hp ch1 hg trivial) (by have := Mur.range_cut (range_row (Chg.hp ch1 hg trivial)) (i * 97) (Mur.rowA (L.drop i)) (Mur.cut_drop (cur := cur.toList) htk); simpa using this) (by simp only [Mur.rowA_len, List.length_drop]; omega) (Mur.rowA_one _) (Nat.le_trans hfit1 (Nat.le_of_eq hcs.symm)) Rw1 hRw1.symm) ?_
 rintro _ W2 ⟨rfl, hb1, ch2⟩
 have zz2 := ch2.size
 have sS2 := Chg.step sS1 ch2 ⟨.inl (by simp), trivial⟩
 refine ⟨sS2, ?_⟩
 refine dEnd (by kernel_rfl) (nxt (wp_seq (reg ?_)))
 refine rP 0 78 (.slice (some ⟨g, 0, none⟩) (n + 1) c) rfl rfl ?_
 refine rP 1 79 (.int .i64 ((i : Nat) : Int)) rfl rfl ?_
 refine rQ 2 80 (.slice (some ⟨g, 0 + i * 97, none⟩) (n + 1 - i) (c - i)) rfl rfl (Mur.run_fromS 22 (.tmp 78) (.tmp 79) rfl 32 Tryd.underlying22 97 (by kernel_rfl) g 0 (n + 1) c i (by kernel_rfl) (by kernel_rfl) (by omega) (by omega) (n + 1 - i) (by omega)) ?_
 refine rP 3 81 (.slice (some ⟨q, 0, none⟩) 1 1) rfl rfl ?_
 have hfit2 : 0 + i * 97 + x.C.length ≤ c * 97 := by simp only [Mur.Att.C_len]; omega
 obtain ⟨Rw2, hRw2⟩ : ∃ R, R = Go.splice Rw1.toArray.toList (0 + i * 97) x.C := ⟨_, rfl⟩
 have hRl2 : Rw2.length = c * 97 := by rw [hRw2]; exact Mur.splice_len hfit2 hRl1
 refine rX 4 82 rfl rfl (Mur.copyK (.tmp 80) (.tmp 81) 22 22 rfl 32 Tryd.underlying22 97 (by kernel_rfl) g (0 + i * 97) (n + 1 - i) (c - i) (by kernel_rfl) q 0 1 1 (by kernel_rfl) 1 (Nat.min_eq_left (by omega)) 32 Rw1.toArray x.C hb1 (range_row (Chg.hp ch2 (Chg.hp ch1 hq trivial) ⟨by omega, trivial⟩)) (x.C_len) (x.C_one) (Nat.le_trans hfit2 (Nat.le_of_eq (show Rw1.toArray.size = c * 97 from by rw [List.size_toArray]; exact hRl1).symm)) Rw2 hRw2.symm) ?_
 rintro _ W3 ⟨rfl, hb2, ch3⟩
 have zz3 := ch3.size
 refine rEnd 5 rfl (nxt (wp_seq (reg ?_)))
 refine rP 0 83 (.slice (some ⟨g, 0, none⟩) (n + 1) c) rfl rfl ?_
 refine rP 1 6 (.slice (some ⟨g, 0, none⟩) (n + 1) c) rfl rfl ?_
 refine rEnd 2 rfl (nxt (wp_ret (thR ?_)))
 have kk1 : Chg [g] (w) W1 := Chg.step ((Chg.refl _).more (by simp)) ch1 trivial
 have kk2 := Chg.step kk1 ch2 ⟨.inl (by simp), trivial⟩
 have kk3 := Chg.step kk2 ch3 ⟨.inl (by simp), trivial⟩
 have hfin : Rw2 = cur.toList.take (i * 97) ++ (x.C ++ (Mur.rowA (L.drop i) ++ cur.toList.drop (i * 97 + 97 + (Mur.rowA (L.drop i)).length))) := by rw [hRw2, show Rw1.toArray.toList = Rw1 from rfl, show 0 + i * 97 = i * 97 by omega, hRw1, show 0 + (i + 1) * 97 = i * 97 + 97 by omega]; exact Mur.ins_back (p := i * 97) x.C_len (by have h_ : cur.toList.length = c * 97 := (by rw [Array.length_toList]; exact hcs); simp only [Mur.rowA_len, List.length_drop]; omega)
 have hrow := Mur.ins_row (n := n) x (by omega) hl htp
 rw [← hfin] at hrow
 have hsz : Rw2.toArray.size = c * 97 := by rw [List.size_toArray]; exact hRl2
 refine Wk.ret (.slice (some ⟨g, 0, none⟩) (n + 1) c) rfl (by kernel_rfl) ?_
 exact ⟨_, _, rfl, Mur.OwnA.of hbg hb2 (by omega) (by omega) hsz hrow (by simp only [List.length_append, List.length_cons, List.length_take, List.length_drop]; omega), kk3, fun q' h1 => .inl h1⟩
theorem Insert_grow (L : List Att) (base : Nat) (A : Option Addr) (n c i : Nat) (x : Att) (q : Nat) (w : World) (h : OwnA w base 32 A n c L) (hn : n ≤ 100000) (hbase : base ≤ w.heap.size) (hq : w.heap[q]? = some (.cells (attC x.k x.r x.n x.t).toArray 32 (0, 0))) (hqA : ∀ g, (Value.slice A n c).ownBlock = some g → g ≠ q) (hi : i < n) (hc : c < n + 1) : Calls Tryd.prog 41 #[.slice A n c, .int .i64 ((i : Nat) : Int), .slice (some ⟨q, 0, none⟩) 1 1] w fun e w' => ∃ A1 c1, e = .returned (.slice A1 (n + 1) c1) ∧ OwnA w' base 32 A1 (n + 1) c1 (L.take i ++ x :: L.drop i) ∧ Chg (Wk.blk (.slice A n c)) w w' ∧ (∀ q', (Value.slice A1 (n + 1) c1).ownBlock = some q' → (Value.slice A n c).ownBlock = some q' ∨ w.heap.size ≤ q') := by
 have hl := h.sl.len
 have hcn := h.nc
 have hcmx := h.cm
 have hql := (Array.getElem?_eq_some_iff.1 hq).1
 obtain ⟨g, cur, rfl, hbg, hg, hcs, htk⟩ := h.cur.resolve_left (fun q => by omega)
 have hqg : q ≠ g := fun e => hqA g rfl e.symm
 have htq : cur.toList.take (i * 97) = Mur.rowA (L.take i) := by rw [Mur.rowA_take, ← htk, List.take_take, Nat.min_eq_left (by omega)]
 have hgl := (Array.getElem?_eq_some_iff.1 hg).1
 refine calls_of_wp Tryd.func41 rfl ?_
 refine wp_seq (reg ?_)
 refine rP 0 6 (.slice none 0 0) rfl rfl ?_
 refine rEnd 1 rfl (nxt (wp_seq (reg ?_)))
 refine rP 0 10 (.slice (some ⟨g, 0, none⟩) n c) rfl rfl ?_
 refine rP 1 11 (.int .i64 ((i : Nat) : Int)) rfl rfl ?_
 refine rQ 2 12 (.slice (if c = i then some ⟨g, 0, none⟩ else (some ⟨g, 0, none⟩ : Option Addr).map (·.add (i * 97))) (n - i) (c - i)) rfl rfl (Mur.run_fromK 22 (.tmp 10) (.tmp 11) rfl 32 Tryd.underlying22 97 (by kernel_rfl) (some ⟨g, 0, none⟩) n c i (by kernel_rfl) (by kernel_rfl) (by omega) _ rfl) ?_
 refine rEnd 3 rfl (nxt (wp_seq (reg ?_)))
 refine rP 0 13 (.slice (some ⟨q, 0, none⟩) 1 1) rfl rfl ?_
 refine rP 1 14 (.int .i64 1) rfl rfl ?_
 refine rP 2 7 (.int .i64 1) rfl rfl ?_
 refine rEnd 3 rfl (nxt (wp_seq (wp_seq (reg ?_))))
 refine rP 0 15 (.int .i64 1) rfl rfl ?_
 refine rQ 1 16 _ rfl rfl (qboolF (b := ((1 : Int) == (0 : Int))) (beq_eq_false_iff_ne.2 (by decide))) ?_
 refine rEnd 2 rfl (nxt (wp_cond_false (by kernel_rfl) (wp_skip (nxt (wp_seq (reg ?_))))))
 refine rP 0 18 (.slice (some ⟨g, 0, none⟩) n c) rfl rfl ?_
 refine rP 1 19 (.int .i64 ((n : Nat) : Int)) rfl rfl ?_
 refine rP 2 8 (.int .i64 ((n : Nat) : Int)) rfl rfl ?_
 refine rEnd 3 rfl (nxt (wp_seq (wp_seq (reg ?_))))
 refine rP 0 20 (.int .i64 ((i : Nat) : Int)) rfl rfl ?_
 refine rP 1 21 (.int .i64 ((n : Nat) : Int)) rfl rfl ?_
 refine rQ 2 22 _ rfl rfl (qboolF (b := (((i : Nat) : Int) == ((n : Nat) : Int))) (beq_eq_false_iff_ne.2 (by omega))) ?_
 refine rEnd 3 rfl (nxt (wp_cond_false (by kernel_rfl) (wp_skip (nxt (wp_seq (wp_seq (reg ?_)))))))
 refine rP 0 26 (.int .i64 ((n : Nat) : Int)) rfl rfl ?_
 refine rP 1 27 (.int .i64 1) rfl rfl ?_
 refine rQ 2 28 _ rfl rfl (qint64 (n := ((n : Nat) : Int) + 1) (z := ((n + 1 : Nat) : Int)) (by omega) (by omega) (by omega)) ?_
 refine rP 3 29 (.slice (some ⟨g, 0, none⟩) n c) rfl rfl ?_
 refine rP 4 30 (.int .i64 ((c : Nat) : Int)) rfl rfl ?_
 refine rQ 5 31 _ rfl rfl (qboolT (b := decide (((n + 1 : Nat) : Int) > ((c : Nat) : Int))) (decide_eq_true (by omega))) ?_
 refine rEnd 6 rfl (nxt (wp_cond_true (by kernel_rfl) (wp_seq (reg ?_))))
 refine rP 0 32 (.slice (some ⟨g, 0, none⟩) n c) rfl rfl ?_
 refine rP 1 33 (.int .i64 ((i : Nat) : Int)) rfl rfl ?_
 refine rQ 2 34 (.slice (some ⟨g, 0, none⟩) i c) rfl rfl (Mur.run_toK 22 (.tmp 32) (.tmp 33) rfl 32 Tryd.underlying22 97 (by kernel_rfl) (some ⟨g, 0, none⟩) n c i (.inr ⟨_, _, rfl⟩) (by kernel_rfl) (by kernel_rfl) (by omega)) ?_
 refine rP 3 35 (.int .i64 ((n : Nat) : Int)) rfl rfl ?_
 refine rP 4 36 (.int .i64 1) rfl rfl ?_
 refine rQ 5 37 _ rfl rfl (qint64 (n := ((n : Nat) : Int) + 1) (z := ((n + 1 : Nat) : Int)) (by omega) (by omega) (by omega)) ?_
 refine rP 6 38 (.int .i64 ((i : Nat) : Int)) rfl rfl ?_
 refine rQ 7 39 _ rfl rfl (qint64 (n := ((n + 1 : Nat) : Int) - ((i : Nat) : Int)) (z := ((n + 1 - i : Nat) : Int)) (by omega) (by omega) (by omega)) ?_
 refine rX 8 40 rfl rfl (Mur.growZ (.tmp 34) (.tmp 39) 22 3 32 rfl Tryd.underlying22 .i64 Tryd.underlying3 attI g i c (n + 1 - i) (n + 1) cur (L.take i) (by kernel_rfl) (by kernel_rfl) hg htq (by rw [List.length_take]; omega) (by omega) (by omega) (by omega) (by omega)) ?_
 rintro _ W1 ⟨CC1, cs1, rfl, hb1, htk1, hcs1, hq1, hq2, ch1, sz1⟩
 have zz1 := ch1.size
 have hcs := hcs1
 have htp := htk1
 have hcm := hq2
 have hNC := hq1
 refine rP 9 9 (.slice (some ⟨w.heap.size, 0, none⟩) (n + 1) CC1) rfl rfl ?_
 refine rEnd 10 rfl (nxt (wp_seq (reg ?_)))
 refine rP 0 41 (.slice (some ⟨w.heap.size, 0, none⟩) (n + 1) CC1) rfl rfl ?_
 refine rP 1 42 (.int .i64 ((i : Nat) : Int)) rfl rfl ?_
 refine rQ 2 43 (.slice (some ⟨w.heap.size, 0 + i * 97, none⟩) (n + 1 - i) (CC1 - i)) rfl rfl (Mur.run_fromS 22 (.tmp 41) (.tmp 42) rfl 32 Tryd.underlying22 97 (by kernel_rfl) w.heap.size 0 (n + 1) CC1 i (by kernel_rfl) (by kernel_rfl) (by omega) (by omega) (n + 1 - i) (by omega)) ?_
 refine rP 3 44 (.slice (some ⟨q, 0, none⟩) 1 1) rfl rfl ?_
 have hfit1 : 0 + i * 97 + x.C.length ≤ CC1 * 97 := by simp only [Mur.Att.C_len]; omega
 obtain ⟨Rw1, hRw1⟩ : ∃ R, R = Go.splice cs1.toList (0 + i * 97) x.C := ⟨_, rfl⟩
 have hRl1 : Rw1.length = CC1 * 97 := by rw [hRw1]; exact Mur.splice_len hfit1 (by rw [Array.length_toList]; exact hcs)
 refine rX 4 45 rfl rfl (Mur.copyK (.tmp 43) (.tmp 44) 22 22 rfl 32 Tryd.underlying22 97 (by kernel_rfl) w.heap.size (0 + i * 97) (n + 1 - i) (CC1 - i) (by kernel_rfl) q 0 1 1 (by kernel_rfl) 1 (Nat.min_eq_left (by omega)) 32 cs1 x.C hb1 (range_row (Chg.hp ch1 hq trivial)) (x.C_len) (x.C_one) (Nat.le_trans hfit1 (Nat.le_of_eq hcs.symm)) Rw1 hRw1.symm) ?_
 rintro _ W2 ⟨rfl, hb2, ch2⟩
 have zz2 := ch2.size
 refine rEnd 5 rfl (nxt (wp_seq ?_))
 refine dReg ([w.heap.size]) (by kernel_rfl) ?_
 intro W3 ch3 sz2
 have zz3 := ch3.size
 have sS1 : Chg ([w.heap.size]) W3 W3 := (Chg.refl _).more (by simp)
 refine dV 0 46 (.slice (some ⟨w.heap.size, 0, none⟩) (n + 1) CC1) rfl rfl (fun _ _ => by kernel_rfl) sS1 ?_
 refine dV 1 47 (.int .i64 ((i : Nat) : Int)) rfl rfl (fun _ _ => by kernel_rfl) sS1 ?_
 refine dV 2 48 (.int .i64 1) rfl rfl (fun _ _ => by kernel_rfl) sS1 ?_
 refine dV 3 49 (.int .i64 ((i + 1 : Nat) : Int)) rfl rfl (fun w' hw' => (int64 (n := ((i : Nat) : Int) + 1) (z := ((i + 1 : Nat) : Int)) (by omega) (by omega) (by omega) (by kernel_rfl))) sS1 ?_
 refine dV 4 50 (.slice (some ⟨w.heap.size, 0 + (i + 1) * 97, none⟩) (n - i) (CC1 - (i + 1))) rfl rfl (fun w' hw' => (Mur.run_fromS 22 (.tmp 46) (.tmp 49) rfl 32 Tryd.underlying22 97 (by kernel_rfl) w.heap.size 0 (n + 1) CC1 (i + 1) (by kernel_rfl) (by kernel_rfl) (by omega) (by omega) (n - i) (by omega))) sS1 ?_
 refine dV 5 51 (.slice (some ⟨g, 0, none⟩) n c) rfl rfl (fun _ _ => by kernel_rfl) sS1 ?_
 refine dV 6 52 (.int .i64 ((i : Nat) : Int)) rfl rfl (fun _ _ => by kernel_rfl) sS1 ?_
 refine dV 7 53 (.slice (some ⟨g, 0 + i * 97, none⟩) (n - i) (c - i)) rfl rfl (fun w' hw' => (Mur.run_fromS 22 (.tmp 51) (.tmp 52) rfl 32 Tryd.underlying22 97 (by kernel_rfl) g 0 n c i (by kernel_rfl) (by kernel_rfl) (by omega) (by omega) (n - i) (by omega))) sS1 ?_
 refine dOp 8 (by kernel_rfl) ?_
 have hfit2 : 0 + (i + 1) * 97 + (Mur.rowA (L.drop i)).length ≤ CC1 * 97 := by simp only [Mur.rowA_len, List.length_drop]; omega
 obtain ⟨Rw2, hRw2⟩ : ∃ R, R = Go.splice Rw1.toArray.toList (0 + (i + 1) * 97) (Mur.rowA (L.drop i)) := ⟨_, rfl⟩
 have hRl2 : Rw2.length = CC1 * 97 := by rw [hRw2]; exact Mur.splice_len hfit2 hRl1
 refine oEx (some 54) _ rfl rfl (by kernel_rfl) (Mur.copyK (.tmp 50) (.tmp 53) 22 22 rfl 32 Tryd.underlying22 97 (by kernel_rfl) w.heap.size (0 + (i + 1) * 97) (n - i) (CC1 - (i + 1)) (by kernel_rfl) g (0 + i * 97) (n - i) (c - i) (by kernel_rfl) (n - i) (Nat.min_eq_left (by omega)) 32 Rw1.toArray (Mur.rowA (L.drop i)) (Chg.hp ch3 hb2 trivial) (by have := Mur.range_cut (range_row (Chg.hp ch3 (Chg.hp ch2 (Chg.hp ch1 hg trivial) ⟨by omega, trivial⟩) trivial)) (i * 97) (Mur.rowA (L.drop i)) (Mur.cut_drop (cur := cur.toList) htk); simpa using this) (by simp only [Mur.rowA_len, List.length_drop]; omega) (Mur.rowA_one _) (Nat.le_trans hfit2 (Nat.le_of_eq (show Rw1.toArray.size = CC1 * 97 from by rw [List.size_toArray]; exact hRl1).symm)) Rw2 hRw2.symm) ?_
 rintro _ W4 ⟨rfl, hb3, ch4⟩
 have zz4 := ch4.size
 have sS2 := Chg.step sS1 ch4 ⟨.inl (by simp), trivial⟩
 refine ⟨sS2, ?_⟩
 refine dEnd (by kernel_rfl) (nxt (wp_seq (reg ?_)))
 refine rP 0 55 (.slice (some ⟨w.heap.size, 0, none⟩) (n + 1) CC1) rfl rfl ?_
 refine rP 1 6 (.slice (some ⟨w.heap.size, 0, none⟩) (n + 1) CC1) rfl rfl ?_
 refine rEnd 2 rfl (nxt (wp_ret (thR ?_)))
 have kk1 : Chg [] (w) W1 := Chg.step ((Chg.refl _).more (by simp)) ch1 trivial
 have kk2 := Chg.step kk1 ch2 ⟨.inr (by omega), trivial⟩
 have kk3 := Chg.step kk2 ch3 trivial
 have kk4 := Chg.step kk3 ch4 ⟨.inr (by omega), trivial⟩
 have hfin : Rw2 = cs1.toList.take (i * 97) ++ (x.C ++ (Mur.rowA (L.drop i) ++ cs1.toList.drop (i * 97 + 97 + (Mur.rowA (L.drop i)).length))) := by rw [hRw2, show Rw1.toArray.toList = Rw1 from rfl, show 0 + (i + 1) * 97 = i * 97 + 97 by omega, hRw1, show 0 + i * 97 = i * 97 by omega]; exact Mur.ins_fore (p := i * 97) x.C_len (by have h_ : cs1.toList.length = CC1 * 97 := (by rw [Array.length_toList]; exact hcs); simp only [Mur.rowA_len, List.length_drop]; omega)
 have hrow := Mur.ins_row (n := n) x (by omega) hl htp
 rw [← hfin] at hrow
 have hsz : Rw2.toArray.size = CC1 * 97 := by rw [List.size_toArray]; exact hRl2
 refine Wk.ret (.slice (some ⟨w.heap.size, 0, none⟩) (n + 1) CC1) rfl (by kernel_rfl) ?_
 exact ⟨_, _, rfl, Mur.OwnA.of (by omega) hb3 (by omega) (by omega) hsz hrow (by simp only [List.length_append, List.length_cons, List.length_take, List.length_drop]; omega), (kk4.more (by simp)), fun q' h1 => .inr (by simp [Value.ownBlock] at h1; omega)⟩
theorem Insert_any (L : List Att) (base : Nat) (A : Option Addr) (n c i : Nat) (x : Att) (q : Nat) (w : World) (h : OwnA w base 32 A n c L) (hn : n ≤ 100000) (hbase : base ≤ w.heap.size) (hq : w.heap[q]? = some (.cells (attC x.k x.r x.n x.t).toArray 32 (0, 0))) (hqA : ∀ g, (Value.slice A n c).ownBlock = some g → g ≠ q) (hi : i ≤ n) : Calls Tryd.prog 41 #[.slice A n c, .int .i64 ((i : Nat) : Int), .slice (some ⟨q, 0, none⟩) 1 1] w fun e w' => ∃ A1 c1, e = .returned (.slice A1 (n + 1) c1) ∧ OwnA w' base 32 A1 (n + 1) c1 (L.take i ++ x :: L.drop i) ∧ Chg (Wk.blk (.slice A n c)) w w' ∧ (∀ q', (Value.slice A1 (n + 1) c1).ownBlock = some q' → (Value.slice A n c).ownBlock = some q' ∨ w.heap.size ≤ q') := by
 by_cases h1 : i = n
 ·subst h1
  exact Insert_app L base A i c x q w h hn hbase hq hqA
 by_cases h2 : n + 1 ≤ c
 ·exact Insert_in L base A n c i x q w h hn hbase hq hqA (by omega) h2
 exact Insert_grow L base A n c i x q w h hn hbase hq hqA (by omega) (by omega)
end Go.Proofs.YtfhneademopciaaDoor
