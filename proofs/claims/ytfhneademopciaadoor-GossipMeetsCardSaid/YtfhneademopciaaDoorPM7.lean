/- bytes.Join of an attest's four parts. An attest's bytes; which comes first. An attest's bytes, or none; a length in 104 bytes. adverts: the order, halves of a key, prefixes. adverts: where a result is. -/
import Derived.Test.YtfhneademopciaaDoorPM4
import Derived.Test.YtfhneademopciaaDoorPM6
namespace Go.Proofs.YtfhneademopciaaDoor
open Go.RowKit
open Mur (b8s Byt Own8 Seg Segs flat cutA attC)
set_option maxRecDepth 100000
set_option maxHeartbeats 4000000
theorem Join4_any (gp : Nat) (T : TypeId) (fr : Nat × Nat) (A1 A2 A3 A4 : Option Addr) (c1 c2 c3 c4 : Nat) (k r E t : List UInt8) (w : World) (hp : w.heap[gp]? = some (.cells #[.slice A1 32 c1, .slice A2 32 c2, .slice A3 8 c3, .slice A4 32 c4] T fr)) (hy1 : Byt w A1 32 k) (hy2 : Byt w A2 32 r) (hy3 : Byt w A3 8 E) (hy4 : Byt w A4 32 t) : Calls Tryd.prog 81 #[.slice (some ⟨gp, 0, none⟩) 4 4, .slice none 0 0] w fun e w' => ∃ q, e = .returned (.slice (some ⟨q, 0, none⟩) 104 104) ∧ Byt w' (some ⟨q, 0, none⟩) 104 (((k ++ r) ++ E) ++ t) ∧ (w.heap.size ≤ q ∧ q < w'.heap.size) ∧ Wk.Chg [] w w' := by
 have hgp := (Array.getElem?_eq_some_iff.1 hp).1
 refine calls_of_wp Tryd.func81 rfl ?_
 refine wp_seq (Wk.reg ?_)
 refine Wk.rP 0 4 (.slice none 0 0) rfl rfl ?_
 refine Wk.rEnd 1 rfl (Wk.nxt (wp_seq (wp_seq (Wk.reg ?_))))
 refine Wk.rP 0 12 (.slice (some ⟨gp, 0, none⟩) 4 4) rfl rfl ?_
 refine Wk.rP 1 13 (.int .i64 4) rfl rfl ?_
 refine Wk.rQ 2 14 (.bool false) rfl rfl (Wk.boolF (b := ((4 : Int) == (0 : Int))) (beq_eq_false_iff_ne.2 (by decide)) (by kernel_rfl)) ?_
 refine Wk.rEnd 3 rfl (Wk.nxt (wp_cond_false (by kernel_rfl) (wp_skip (Wk.nxt (wp_seq (wp_seq (Wk.reg ?_)))))))
 refine Wk.rP 0 16 (.slice (some ⟨gp, 0, none⟩) 4 4) rfl rfl ?_
 refine Wk.rP 1 17 (.int .i64 4) rfl rfl ?_
 refine Wk.rQ 2 18 (.bool false) rfl rfl (Wk.boolF (b := ((4 : Int) == (1 : Int))) (beq_eq_false_iff_ne.2 (by decide)) (by kernel_rfl)) ?_
 refine Wk.rEnd 3 rfl (Wk.nxt (wp_cond_false (by kernel_rfl) (wp_skip (Wk.nxt (wp_seq (Wk.reg ?_))))))
 refine Wk.rP 0 5 (.int .i64 0) rfl rfl ?_
 refine Wk.rEnd 1 rfl (Wk.nxt (wp_seq (wp_seq (Wk.reg ?_))))
 refine Wk.rP 0 23 (.slice none 0 0) rfl rfl ?_
 refine Wk.rP 1 24 (.int .i64 0) rfl rfl ?_
 refine Wk.rQ 2 25 (.bool false) rfl rfl (Wk.boolF (b := decide ((0 : Int) > (0 : Int))) (decide_eq_false (by decide)) (by kernel_rfl)) ?_
 refine Wk.rEnd 3 rfl (Wk.nxt (wp_cond_false (by kernel_rfl) (wp_skip (Wk.nxt (wp_seq (wp_seq (Wk.reg ?_)))))))
 refine Wk.rP 0 42 (.slice (some ⟨gp, 0, none⟩) 4 4) rfl rfl ?_
 refine Wk.rP 1 43 (.int .i64 4) rfl rfl ?_
 refine Wk.rP 2 44 (.int .i64 0) rfl rfl ?_
 refine Wk.rEnd 3 rfl (Wk.nxt (wp_block ?_))
 refine Wk.loopN 5 ?_
 refine Wk.rdS (wp_seq (Wk.reg ?_))
 refine Wk.rQ 0 45 (.bool true) rfl rfl (Wk.boolT (b := decide ((0 : Int) < (4 : Int))) (decide_eq_true (by decide)) (by kernel_rfl)) ?_
 refine Wk.rEnd 1 rfl (Wk.nxt (wp_seq (wp_cond_true (by kernel_rfl) (wp_skip (Wk.nxt (wp_seq (wp_block (wp_seq (Wk.reg ?_)))))))))
 refine Wk.rQ 0 46 (.pointer (some ⟨gp, 0, none⟩)) rfl rfl (Wk.index_sl 83 38 (.tmp 42) (.tmp 44) rfl Tryd.underlying83 1 (by kernel_rfl) gp 0 4 4 0 .i64 (by kernel_rfl) (by kernel_rfl) (by omega)) ?_
 refine Wk.rQ 1 47 (.slice A1 32 c1) rfl rfl (Wk.load1 38 (.tmp 46) rfl (by kernel_rfl) ⟨gp, 0, none⟩ (by kernel_rfl) (.slice A1 32 c1) ((cell_of_row _ _ 0 _ _ _ hp).trans rfl)) ?_
 refine Wk.rP 2 7 (.slice A1 32 c1) rfl rfl ?_
 refine Wk.rEnd 3 rfl (Wk.nxt (wp_seq (wp_seq (Wk.reg ?_))))
 refine Wk.rP 0 48 (.slice A1 32 c1) rfl rfl ?_
 refine Wk.rP 1 49 (.int .i64 32) rfl rfl ?_
 refine Wk.rP 2 50 (.int .i64 0) rfl rfl ?_
 refine Wk.rQ 3 51 (.int .i64 9223372036854775807) rfl rfl (Wk.int64 (n := 9223372036854775807 - 0) (z := 9223372036854775807) (by omega) (by omega) (by omega) (by kernel_rfl)) ?_
 refine Wk.rQ 4 52 (.bool false) rfl rfl (Wk.boolF (b := decide ((32 : Int) > (9223372036854775807 : Int))) (decide_eq_false (by decide)) (by kernel_rfl)) ?_
 refine Wk.rEnd 5 rfl (Wk.nxt (wp_cond_false (by kernel_rfl) (wp_skip (Wk.nxt (Wk.reg ?_)))))
 refine Wk.rP 0 54 (.int .i64 0) rfl rfl ?_
 refine Wk.rP 1 55 (.slice A1 32 c1) rfl rfl ?_
 refine Wk.rP 2 56 (.int .i64 32) rfl rfl ?_
 refine Wk.rQ 3 57 (.int .i64 32) rfl rfl (Wk.int64 (n := 0 + 32) (z := 32) (by omega) (by omega) (by omega) (by kernel_rfl)) ?_
 refine Wk.rP 4 5 (.int .i64 32) rfl rfl ?_
 refine Wk.rEnd 5 rfl (Wk.inN (Wk.nxt (Wk.reg ?_)))
 refine Wk.rQ 0 58 (.int .i64 1) rfl rfl (Wk.int64 (n := 0 + 1) (z := 1) (by omega) (by omega) (by omega) (by kernel_rfl)) ?_
 refine Wk.rP 1 44 (.int .i64 1) rfl rfl ?_
 refine Wk.rEnd 2 rfl (Wk.nxt (Wk.rdS (wp_seq (Wk.reg ?_))))
 refine Wk.rQ 0 45 (.bool true) rfl rfl (Wk.boolT (b := decide ((1 : Int) < (4 : Int))) (decide_eq_true (by decide)) (by kernel_rfl)) ?_
 refine Wk.rEnd 1 rfl (Wk.nxt (wp_seq (wp_cond_true (by kernel_rfl) (wp_skip (Wk.nxt (wp_seq (wp_block (wp_seq (Wk.reg ?_)))))))))
 refine Wk.rQ 0 46 (.pointer (some ⟨gp, 1, none⟩)) rfl rfl (Wk.index_sl 83 38 (.tmp 42) (.tmp 44) rfl Tryd.underlying83 1 (by kernel_rfl) gp 0 4 4 1 .i64 (by kernel_rfl) (by kernel_rfl) (by omega)) ?_
 refine Wk.rQ 1 47 (.slice A2 32 c2) rfl rfl (Wk.load1 38 (.tmp 46) rfl (by kernel_rfl) ⟨gp, 1, none⟩ (by kernel_rfl) (.slice A2 32 c2) ((cell_of_row _ _ 1 _ _ _ hp).trans rfl)) ?_
 refine Wk.rP 2 7 (.slice A2 32 c2) rfl rfl ?_
 refine Wk.rEnd 3 rfl (Wk.nxt (wp_seq (wp_seq (Wk.reg ?_))))
 refine Wk.rP 0 48 (.slice A2 32 c2) rfl rfl ?_
 refine Wk.rP 1 49 (.int .i64 32) rfl rfl ?_
 refine Wk.rP 2 50 (.int .i64 32) rfl rfl ?_
 refine Wk.rQ 3 51 (.int .i64 9223372036854775775) rfl rfl (Wk.int64 (n := 9223372036854775807 - 32) (z := 9223372036854775775) (by omega) (by omega) (by omega) (by kernel_rfl)) ?_
 refine Wk.rQ 4 52 (.bool false) rfl rfl (Wk.boolF (b := decide ((32 : Int) > (9223372036854775775 : Int))) (decide_eq_false (by decide)) (by kernel_rfl)) ?_
 refine Wk.rEnd 5 rfl (Wk.nxt (wp_cond_false (by kernel_rfl) (wp_skip (Wk.nxt (Wk.reg ?_)))))
 refine Wk.rP 0 54 (.int .i64 32) rfl rfl ?_
 refine Wk.rP 1 55 (.slice A2 32 c2) rfl rfl ?_
 refine Wk.rP 2 56 (.int .i64 32) rfl rfl ?_
 refine Wk.rQ 3 57 (.int .i64 64) rfl rfl (Wk.int64 (n := 32 + 32) (z := 64) (by omega) (by omega) (by omega) (by kernel_rfl)) ?_
 refine Wk.rP 4 5 (.int .i64 64) rfl rfl ?_
 refine Wk.rEnd 5 rfl (Wk.inN (Wk.nxt (Wk.reg ?_)))
 refine Wk.rQ 0 58 (.int .i64 2) rfl rfl (Wk.int64 (n := 1 + 1) (z := 2) (by omega) (by omega) (by omega) (by kernel_rfl)) ?_
 refine Wk.rP 1 44 (.int .i64 2) rfl rfl ?_
 refine Wk.rEnd 2 rfl (Wk.nxt (Wk.rdS (wp_seq (Wk.reg ?_))))
 refine Wk.rQ 0 45 (.bool true) rfl rfl (Wk.boolT (b := decide ((2 : Int) < (4 : Int))) (decide_eq_true (by decide)) (by kernel_rfl)) ?_
 refine Wk.rEnd 1 rfl (Wk.nxt (wp_seq (wp_cond_true (by kernel_rfl) (wp_skip (Wk.nxt (wp_seq (wp_block (wp_seq (Wk.reg ?_)))))))))
 refine Wk.rQ 0 46 (.pointer (some ⟨gp, 2, none⟩)) rfl rfl (Wk.index_sl 83 38 (.tmp 42) (.tmp 44) rfl Tryd.underlying83 1 (by kernel_rfl) gp 0 4 4 2 .i64 (by kernel_rfl) (by kernel_rfl) (by omega)) ?_
 refine Wk.rQ 1 47 (.slice A3 8 c3) rfl rfl (Wk.load1 38 (.tmp 46) rfl (by kernel_rfl) ⟨gp, 2, none⟩ (by kernel_rfl) (.slice A3 8 c3) ((cell_of_row _ _ 2 _ _ _ hp).trans rfl)) ?_
 refine Wk.rP 2 7 (.slice A3 8 c3) rfl rfl ?_
 refine Wk.rEnd 3 rfl (Wk.nxt (wp_seq (wp_seq (Wk.reg ?_))))
 refine Wk.rP 0 48 (.slice A3 8 c3) rfl rfl ?_
 refine Wk.rP 1 49 (.int .i64 8) rfl rfl ?_
 refine Wk.rP 2 50 (.int .i64 64) rfl rfl ?_
 refine Wk.rQ 3 51 (.int .i64 9223372036854775743) rfl rfl (Wk.int64 (n := 9223372036854775807 - 64) (z := 9223372036854775743) (by omega) (by omega) (by omega) (by kernel_rfl)) ?_
 refine Wk.rQ 4 52 (.bool false) rfl rfl (Wk.boolF (b := decide ((8 : Int) > (9223372036854775743 : Int))) (decide_eq_false (by decide)) (by kernel_rfl)) ?_
 refine Wk.rEnd 5 rfl (Wk.nxt (wp_cond_false (by kernel_rfl) (wp_skip (Wk.nxt (Wk.reg ?_)))))
 refine Wk.rP 0 54 (.int .i64 64) rfl rfl ?_
 refine Wk.rP 1 55 (.slice A3 8 c3) rfl rfl ?_
 refine Wk.rP 2 56 (.int .i64 8) rfl rfl ?_
 refine Wk.rQ 3 57 (.int .i64 72) rfl rfl (Wk.int64 (n := 64 + 8) (z := 72) (by omega) (by omega) (by omega) (by kernel_rfl)) ?_
 refine Wk.rP 4 5 (.int .i64 72) rfl rfl ?_
 refine Wk.rEnd 5 rfl (Wk.inN (Wk.nxt (Wk.reg ?_)))
 refine Wk.rQ 0 58 (.int .i64 3) rfl rfl (Wk.int64 (n := 2 + 1) (z := 3) (by omega) (by omega) (by omega) (by kernel_rfl)) ?_
 refine Wk.rP 1 44 (.int .i64 3) rfl rfl ?_
 refine Wk.rEnd 2 rfl (Wk.nxt (Wk.rdS (wp_seq (Wk.reg ?_))))
 refine Wk.rQ 0 45 (.bool true) rfl rfl (Wk.boolT (b := decide ((3 : Int) < (4 : Int))) (decide_eq_true (by decide)) (by kernel_rfl)) ?_
 refine Wk.rEnd 1 rfl (Wk.nxt (wp_seq (wp_cond_true (by kernel_rfl) (wp_skip (Wk.nxt (wp_seq (wp_block (wp_seq (Wk.reg ?_)))))))))
 refine Wk.rQ 0 46 (.pointer (some ⟨gp, 3, none⟩)) rfl rfl (Wk.index_sl 83 38 (.tmp 42) (.tmp 44) rfl Tryd.underlying83 1 (by kernel_rfl) gp 0 4 4 3 .i64 (by kernel_rfl) (by kernel_rfl) (by omega)) ?_
 refine Wk.rQ 1 47 (.slice A4 32 c4) rfl rfl (Wk.load1 38 (.tmp 46) rfl (by kernel_rfl) ⟨gp, 3, none⟩ (by kernel_rfl) (.slice A4 32 c4) ((cell_of_row _ _ 3 _ _ _ hp).trans rfl)) ?_
 refine Wk.rP 2 7 (.slice A4 32 c4) rfl rfl ?_
 refine Wk.rEnd 3 rfl (Wk.nxt (wp_seq (wp_seq (Wk.reg ?_))))
 refine Wk.rP 0 48 (.slice A4 32 c4) rfl rfl ?_
 refine Wk.rP 1 49 (.int .i64 32) rfl rfl ?_
 refine Wk.rP 2 50 (.int .i64 72) rfl rfl ?_
 refine Wk.rQ 3 51 (.int .i64 9223372036854775735) rfl rfl (Wk.int64 (n := 9223372036854775807 - 72) (z := 9223372036854775735) (by omega) (by omega) (by omega) (by kernel_rfl)) ?_
 refine Wk.rQ 4 52 (.bool false) rfl rfl (Wk.boolF (b := decide ((32 : Int) > (9223372036854775735 : Int))) (decide_eq_false (by decide)) (by kernel_rfl)) ?_
 refine Wk.rEnd 5 rfl (Wk.nxt (wp_cond_false (by kernel_rfl) (wp_skip (Wk.nxt (Wk.reg ?_)))))
 refine Wk.rP 0 54 (.int .i64 72) rfl rfl ?_
 refine Wk.rP 1 55 (.slice A4 32 c4) rfl rfl ?_
 refine Wk.rP 2 56 (.int .i64 32) rfl rfl ?_
 refine Wk.rQ 3 57 (.int .i64 104) rfl rfl (Wk.int64 (n := 72 + 32) (z := 104) (by omega) (by omega) (by omega) (by kernel_rfl)) ?_
 refine Wk.rP 4 5 (.int .i64 104) rfl rfl ?_
 refine Wk.rEnd 5 rfl (Wk.inN (Wk.nxt (Wk.reg ?_)))
 refine Wk.rQ 0 58 (.int .i64 4) rfl rfl (Wk.int64 (n := 3 + 1) (z := 4) (by omega) (by omega) (by omega) (by kernel_rfl)) ?_
 refine Wk.rP 1 44 (.int .i64 4) rfl rfl ?_
 refine Wk.rEnd 2 rfl (Wk.nxt (Wk.rdS (wp_seq (Wk.reg ?_))))
 refine Wk.rQ 0 45 (.bool false) rfl rfl (Wk.boolF (b := decide ((4 : Int) < (4 : Int))) (decide_eq_false (by decide)) (by kernel_rfl)) ?_
 refine Wk.rEnd 1 rfl (Wk.nxt (wp_seq (wp_cond_false (by kernel_rfl) (wp_exit (Wk.thX (Wk.thX (Wk.inX (Wk.nxt (wp_seq (Wk.reg ?_))))))))))
 refine Wk.rP 0 59 (.int .i64 104) rfl rfl ?_
 refine Wk.rEx 1 (some 60) _ rfl rfl (by kernel_rfl) (Mur.run_nz Tryd.f91.params 38 5 Tryd.func91 (by kernel_rfl) (by kernel_rfl) (by kernel_rfl) (by kernel_rfl) Tryd.underlying38 (.tmp 59) _ rfl 104 (by kernel_rfl) (by omega)) ?_
 rintro _ W1 ⟨cs1, rfl, hb1, hl1, ch1, sz1⟩
 have zz1 := ch1.size
 refine Wk.rP 2 61 (.int .i64 104) rfl rfl ?_
 refine Wk.rP 3 62 (.int .i64 104) rfl rfl ?_
 refine Wk.rQ 4 63 (.slice (some ⟨w.heap.size, 0, none⟩) 104 104) rfl rfl (Mur.run_cut3 38 (.tmp 60) none (.tmp 61) (.tmp 62) rfl 5 Tryd.underlying38 (by kernel_rfl) w.heap.size 0 104 cs1.length 0 104 104 104 (by kernel_rfl) (.inr ⟨rfl, rfl⟩) (by kernel_rfl) (by kernel_rfl) rfl rfl (by omega) (by omega)) ?_
 refine Wk.rP 5 8 (.slice (some ⟨w.heap.size, 0, none⟩) 104 104) rfl rfl ?_
 refine Wk.rEnd 6 rfl (Wk.nxt (wp_seq (Wk.reg ?_)))
 refine Wk.rP 0 64 (.slice (some ⟨w.heap.size, 0, none⟩) 104 104) rfl rfl ?_
 refine Wk.rP 1 65 (.slice (some ⟨gp, 0, none⟩) 4 4) rfl rfl ?_
 refine Wk.rQ 2 66 (.pointer (some ⟨gp, 0, none⟩)) rfl rfl (Wk.index_sl 83 38 (.tmp 65) (.const (.int .i64 0)) rfl Tryd.underlying83 1 (by kernel_rfl) gp 0 4 4 0 .i64 (by kernel_rfl) (by kernel_rfl) (by omega)) ?_
 have kk1 : Wk.Chg [] w W1 := Wk.Chg.step ((Wk.Chg.refl _).more (by simp)) ch1 trivial
 refine Wk.rQ 3 67 (.slice A1 32 c1) rfl rfl (Wk.load1 38 (.tmp 66) rfl (by kernel_rfl) ⟨gp, 0, none⟩ (by kernel_rfl) (.slice A1 32 c1) ((cell_of_row _ _ 0 _ _ _ (Wk.Chg.hp kk1 hp trivial)).trans rfl)) ?_
 refine Wk.rEx 4 (some 68) _ rfl rfl (by kernel_rfl) (Mur.copy_mid (.tmp 64) (.tmp 67) 38 38 rfl 5 Tryd.underlying38 (by kernel_rfl) w.heap.size 0 104 104 (by kernel_rfl) A1 32 c1 (by kernel_rfl) 5 (b8s ([]) ++ cs1.drop 0) k hb1 (Mur.byt_chg hy1 kk1 (fun g off e hl => trivial)) (by omega) (by omega) (by have hfl_ := Mur.fill_len (cs := cs1) (acc := []) (p := 0) (rfl : ([] : List UInt8).length = 0) (by omega); omega) (b8s (k) ++ cs1.drop 32) (Mur.fill_step (rfl : ([] : List UInt8).length = 0) hy1.1 rfl (by omega))) ?_
 rintro _ W2 ⟨rfl, hb2, ch2⟩
 have zz2 := ch2.size
 refine Wk.rP 5 9 (.int .i64 32) rfl rfl ?_
 refine Wk.rEnd 6 rfl (Wk.nxt (wp_seq (wp_seq (Wk.reg ?_))))
 refine Wk.rP 0 69 (.slice (some ⟨gp, 0, none⟩) 4 4) rfl rfl ?_
 refine Wk.rQ 1 70 (.slice (some ⟨gp, 1, none⟩) 3 3) rfl rfl (Mur.run_from_at 83 (.tmp 69) (.const (.int .i64 1)) rfl 38 Tryd.underlying83 (by kernel_rfl) gp 0 4 4 1 3 (by kernel_rfl) (by kernel_rfl) (by omega) (by omega) rfl) ?_
 refine Wk.rP 2 71 (.int .i64 3) rfl rfl ?_
 refine Wk.rP 3 72 (.int .i64 0) rfl rfl ?_
 refine Wk.rEnd 4 rfl (Wk.nxt (wp_block ?_))
 refine Wk.loopN 4 ?_
 refine Wk.rdS (wp_seq (Wk.reg ?_))
 refine Wk.rQ 0 73 (.bool true) rfl rfl (Wk.boolT (b := decide ((0 : Int) < (3 : Int))) (decide_eq_true (by decide)) (by kernel_rfl)) ?_
 refine Wk.rEnd 1 rfl (Wk.nxt (wp_seq (wp_cond_true (by kernel_rfl) (wp_skip (Wk.nxt (wp_seq (wp_block (wp_seq (Wk.reg ?_)))))))))
 refine Wk.rQ 0 74 (.pointer (some ⟨gp, 1, none⟩)) rfl rfl (Wk.index_sl 83 38 (.tmp 70) (.tmp 72) rfl Tryd.underlying83 1 (by kernel_rfl) gp 1 3 3 0 .i64 (by kernel_rfl) (by kernel_rfl) (by omega)) ?_
 have kk2 := Wk.Chg.step kk1 ch2 ⟨.inr (by omega), trivial⟩
 refine Wk.rQ 1 75 (.slice A2 32 c2) rfl rfl (Wk.load1 38 (.tmp 74) rfl (by kernel_rfl) ⟨gp, 1, none⟩ (by kernel_rfl) (.slice A2 32 c2) ((cell_of_row _ _ 1 _ _ _ (Wk.Chg.hp kk2 hp trivial)).trans rfl)) ?_
 refine Wk.rP 2 11 (.slice A2 32 c2) rfl rfl ?_
 refine Wk.rEnd 3 rfl (Wk.nxt (wp_seq (Wk.reg ?_)))
 refine Wk.rP 0 76 (.int .i64 32) rfl rfl ?_
 refine Wk.rP 1 77 (.slice (some ⟨w.heap.size, 0, none⟩) 104 104) rfl rfl ?_
 refine Wk.rP 2 78 (.int .i64 32) rfl rfl ?_
 refine Wk.rQ 3 79 (.slice (some ⟨w.heap.size, 32, none⟩) 72 72) rfl rfl (Mur.run_from_at 38 (.tmp 77) (.tmp 78) rfl 5 Tryd.underlying38 (by kernel_rfl) w.heap.size 0 104 104 32 72 (by kernel_rfl) (by kernel_rfl) (by omega) (by omega) rfl) ?_
 refine Wk.rP 4 80 (.slice none 0 0) rfl rfl ?_
 refine Wk.rQ 5 81 (.int .i64 0) rfl rfl (Mur.copy_none (.tmp 79) (.tmp 80) 38 38 rfl 5 Tryd.underlying38 (by kernel_rfl) ⟨w.heap.size, 32, none⟩ 72 72 (by kernel_rfl) (by kernel_rfl)) ?_
 refine Wk.rQ 6 82 (.int .i64 32) rfl rfl (Wk.int64 (n := 32 + 0) (z := 32) (by omega) (by omega) (by omega) (by kernel_rfl)) ?_
 refine Wk.rP 7 9 (.int .i64 32) rfl rfl ?_
 refine Wk.rEnd 8 rfl (Wk.nxt (Wk.reg ?_))
 refine Wk.rP 0 83 (.int .i64 32) rfl rfl ?_
 refine Wk.rP 1 84 (.slice (some ⟨w.heap.size, 0, none⟩) 104 104) rfl rfl ?_
 refine Wk.rP 2 85 (.int .i64 32) rfl rfl ?_
 refine Wk.rQ 3 86 (.slice (some ⟨w.heap.size, 32, none⟩) 72 72) rfl rfl (Mur.run_from_at 38 (.tmp 84) (.tmp 85) rfl 5 Tryd.underlying38 (by kernel_rfl) w.heap.size 0 104 104 32 72 (by kernel_rfl) (by kernel_rfl) (by omega) (by omega) rfl) ?_
 refine Wk.rP 4 87 (.slice A2 32 c2) rfl rfl ?_
 refine Wk.rEx 5 (some 88) _ rfl rfl (by kernel_rfl) (Mur.copy_mid (.tmp 86) (.tmp 87) 38 38 rfl 5 Tryd.underlying38 (by kernel_rfl) w.heap.size 32 72 72 (by kernel_rfl) A2 32 c2 (by kernel_rfl) 5 (b8s (k) ++ cs1.drop 32) r hb2 (Mur.byt_chg hy2 kk2 (fun g off e hl => trivial)) (by omega) (by omega) (by have hfl_ := Mur.fill_len (cs := cs1) (acc := k) (p := 32) hy1.1 (by omega); omega) (b8s (k ++ r) ++ cs1.drop 64) (Mur.fill_step hy1.1 hy2.1 rfl (by omega))) ?_
 rintro _ W3 ⟨rfl, hb3, ch3⟩
 have zz3 := ch3.size
 refine Wk.rQ 6 89 (.int .i64 64) rfl rfl (Wk.int64 (n := 32 + 32) (z := 64) (by omega) (by omega) (by omega) (by kernel_rfl)) ?_
 refine Wk.rP 7 9 (.int .i64 64) rfl rfl ?_
 refine Wk.rEnd 8 rfl (Wk.inN (Wk.nxt (Wk.reg ?_)))
 refine Wk.rQ 0 90 (.int .i64 1) rfl rfl (Wk.int64 (n := 0 + 1) (z := 1) (by omega) (by omega) (by omega) (by kernel_rfl)) ?_
 refine Wk.rP 1 72 (.int .i64 1) rfl rfl ?_
 refine Wk.rEnd 2 rfl (Wk.nxt (Wk.rdS (wp_seq (Wk.reg ?_))))
 refine Wk.rQ 0 73 (.bool true) rfl rfl (Wk.boolT (b := decide ((1 : Int) < (3 : Int))) (decide_eq_true (by decide)) (by kernel_rfl)) ?_
 refine Wk.rEnd 1 rfl (Wk.nxt (wp_seq (wp_cond_true (by kernel_rfl) (wp_skip (Wk.nxt (wp_seq (wp_block (wp_seq (Wk.reg ?_)))))))))
 refine Wk.rQ 0 74 (.pointer (some ⟨gp, 2, none⟩)) rfl rfl (Wk.index_sl 83 38 (.tmp 70) (.tmp 72) rfl Tryd.underlying83 1 (by kernel_rfl) gp 1 3 3 1 .i64 (by kernel_rfl) (by kernel_rfl) (by omega)) ?_
 have kk3 := Wk.Chg.step kk2 ch3 ⟨.inr (by omega), trivial⟩
 refine Wk.rQ 1 75 (.slice A3 8 c3) rfl rfl (Wk.load1 38 (.tmp 74) rfl (by kernel_rfl) ⟨gp, 2, none⟩ (by kernel_rfl) (.slice A3 8 c3) ((cell_of_row _ _ 2 _ _ _ (Wk.Chg.hp kk3 hp trivial)).trans rfl)) ?_
 refine Wk.rP 2 11 (.slice A3 8 c3) rfl rfl ?_
 refine Wk.rEnd 3 rfl (Wk.nxt (wp_seq (Wk.reg ?_)))
 refine Wk.rP 0 76 (.int .i64 64) rfl rfl ?_
 refine Wk.rP 1 77 (.slice (some ⟨w.heap.size, 0, none⟩) 104 104) rfl rfl ?_
 refine Wk.rP 2 78 (.int .i64 64) rfl rfl ?_
 refine Wk.rQ 3 79 (.slice (some ⟨w.heap.size, 64, none⟩) 40 40) rfl rfl (Mur.run_from_at 38 (.tmp 77) (.tmp 78) rfl 5 Tryd.underlying38 (by kernel_rfl) w.heap.size 0 104 104 64 40 (by kernel_rfl) (by kernel_rfl) (by omega) (by omega) rfl) ?_
 refine Wk.rP 4 80 (.slice none 0 0) rfl rfl ?_
 refine Wk.rQ 5 81 (.int .i64 0) rfl rfl (Mur.copy_none (.tmp 79) (.tmp 80) 38 38 rfl 5 Tryd.underlying38 (by kernel_rfl) ⟨w.heap.size, 64, none⟩ 40 40 (by kernel_rfl) (by kernel_rfl)) ?_
 refine Wk.rQ 6 82 (.int .i64 64) rfl rfl (Wk.int64 (n := 64 + 0) (z := 64) (by omega) (by omega) (by omega) (by kernel_rfl)) ?_
 refine Wk.rP 7 9 (.int .i64 64) rfl rfl ?_
 refine Wk.rEnd 8 rfl (Wk.nxt (Wk.reg ?_))
 refine Wk.rP 0 83 (.int .i64 64) rfl rfl ?_
 refine Wk.rP 1 84 (.slice (some ⟨w.heap.size, 0, none⟩) 104 104) rfl rfl ?_
 refine Wk.rP 2 85 (.int .i64 64) rfl rfl ?_
 refine Wk.rQ 3 86 (.slice (some ⟨w.heap.size, 64, none⟩) 40 40) rfl rfl (Mur.run_from_at 38 (.tmp 84) (.tmp 85) rfl 5 Tryd.underlying38 (by kernel_rfl) w.heap.size 0 104 104 64 40 (by kernel_rfl) (by kernel_rfl) (by omega) (by omega) rfl) ?_
 refine Wk.rP 4 87 (.slice A3 8 c3) rfl rfl ?_
 refine Wk.rEx 5 (some 88) _ rfl rfl (by kernel_rfl) (Mur.copy_mid (.tmp 86) (.tmp 87) 38 38 rfl 5 Tryd.underlying38 (by kernel_rfl) w.heap.size 64 40 40 (by kernel_rfl) A3 8 c3 (by kernel_rfl) 5 (b8s (k ++ r) ++ cs1.drop 64) E hb3 (Mur.byt_chg hy3 kk3 (fun g off e hl => trivial)) (by omega) (by omega) (by have hfl_ := Mur.fill_len (cs := cs1) (acc := k ++ r) (p := 64) (by simp only [List.length_append]; have := hy1.1; have := hy2.1; have := hy3.1; omega) (by omega); omega) (b8s ((k ++ r) ++ E) ++ cs1.drop 72) (Mur.fill_step (by simp only [List.length_append]; have := hy1.1; have := hy2.1; have := hy3.1; omega) hy3.1 rfl (by omega))) ?_
 rintro _ W4 ⟨rfl, hb4, ch4⟩
 have zz4 := ch4.size
 refine Wk.rQ 6 89 (.int .i64 72) rfl rfl (Wk.int64 (n := 64 + 8) (z := 72) (by omega) (by omega) (by omega) (by kernel_rfl)) ?_
 refine Wk.rP 7 9 (.int .i64 72) rfl rfl ?_
 refine Wk.rEnd 8 rfl (Wk.inN (Wk.nxt (Wk.reg ?_)))
 refine Wk.rQ 0 90 (.int .i64 2) rfl rfl (Wk.int64 (n := 1 + 1) (z := 2) (by omega) (by omega) (by omega) (by kernel_rfl)) ?_
 refine Wk.rP 1 72 (.int .i64 2) rfl rfl ?_
 refine Wk.rEnd 2 rfl (Wk.nxt (Wk.rdS (wp_seq (Wk.reg ?_))))
 refine Wk.rQ 0 73 (.bool true) rfl rfl (Wk.boolT (b := decide ((2 : Int) < (3 : Int))) (decide_eq_true (by decide)) (by kernel_rfl)) ?_
 refine Wk.rEnd 1 rfl (Wk.nxt (wp_seq (wp_cond_true (by kernel_rfl) (wp_skip (Wk.nxt (wp_seq (wp_block (wp_seq (Wk.reg ?_)))))))))
 refine Wk.rQ 0 74 (.pointer (some ⟨gp, 3, none⟩)) rfl rfl (Wk.index_sl 83 38 (.tmp 70) (.tmp 72) rfl Tryd.underlying83 1 (by kernel_rfl) gp 1 3 3 2 .i64 (by kernel_rfl) (by kernel_rfl) (by omega)) ?_
 have kk4 := Wk.Chg.step kk3 ch4 ⟨.inr (by omega), trivial⟩
 refine Wk.rQ 1 75 (.slice A4 32 c4) rfl rfl (Wk.load1 38 (.tmp 74) rfl (by kernel_rfl) ⟨gp, 3, none⟩ (by kernel_rfl) (.slice A4 32 c4) ((cell_of_row _ _ 3 _ _ _ (Wk.Chg.hp kk4 hp trivial)).trans rfl)) ?_
 refine Wk.rP 2 11 (.slice A4 32 c4) rfl rfl ?_
 refine Wk.rEnd 3 rfl (Wk.nxt (wp_seq (Wk.reg ?_)))
 refine Wk.rP 0 76 (.int .i64 72) rfl rfl ?_
 refine Wk.rP 1 77 (.slice (some ⟨w.heap.size, 0, none⟩) 104 104) rfl rfl ?_
 refine Wk.rP 2 78 (.int .i64 72) rfl rfl ?_
 refine Wk.rQ 3 79 (.slice (some ⟨w.heap.size, 72, none⟩) 32 32) rfl rfl (Mur.run_from_at 38 (.tmp 77) (.tmp 78) rfl 5 Tryd.underlying38 (by kernel_rfl) w.heap.size 0 104 104 72 32 (by kernel_rfl) (by kernel_rfl) (by omega) (by omega) rfl) ?_
 refine Wk.rP 4 80 (.slice none 0 0) rfl rfl ?_
 refine Wk.rQ 5 81 (.int .i64 0) rfl rfl (Mur.copy_none (.tmp 79) (.tmp 80) 38 38 rfl 5 Tryd.underlying38 (by kernel_rfl) ⟨w.heap.size, 72, none⟩ 32 32 (by kernel_rfl) (by kernel_rfl)) ?_
 refine Wk.rQ 6 82 (.int .i64 72) rfl rfl (Wk.int64 (n := 72 + 0) (z := 72) (by omega) (by omega) (by omega) (by kernel_rfl)) ?_
 refine Wk.rP 7 9 (.int .i64 72) rfl rfl ?_
 refine Wk.rEnd 8 rfl (Wk.nxt (Wk.reg ?_))
 refine Wk.rP 0 83 (.int .i64 72) rfl rfl ?_
 refine Wk.rP 1 84 (.slice (some ⟨w.heap.size, 0, none⟩) 104 104) rfl rfl ?_
 refine Wk.rP 2 85 (.int .i64 72) rfl rfl ?_
 refine Wk.rQ 3 86 (.slice (some ⟨w.heap.size, 72, none⟩) 32 32) rfl rfl (Mur.run_from_at 38 (.tmp 84) (.tmp 85) rfl 5 Tryd.underlying38 (by kernel_rfl) w.heap.size 0 104 104 72 32 (by kernel_rfl) (by kernel_rfl) (by omega) (by omega) rfl) ?_
 refine Wk.rP 4 87 (.slice A4 32 c4) rfl rfl ?_
 refine Wk.rEx 5 (some 88) _ rfl rfl (by kernel_rfl) (Mur.copy_mid (.tmp 86) (.tmp 87) 38 38 rfl 5 Tryd.underlying38 (by kernel_rfl) w.heap.size 72 32 32 (by kernel_rfl) A4 32 c4 (by kernel_rfl) 5 (b8s ((k ++ r) ++ E) ++ cs1.drop 72) t hb4 (Mur.byt_chg hy4 kk4 (fun g off e hl => trivial)) (by omega) (by omega) (by have hfl_ := Mur.fill_len (cs := cs1) (acc := (k ++ r) ++ E) (p := 72) (by simp only [List.length_append]; have := hy1.1; have := hy2.1; have := hy3.1; omega) (by omega); omega) (b8s (((k ++ r) ++ E) ++ t) ++ cs1.drop 104) (Mur.fill_step (by simp only [List.length_append]; have := hy1.1; have := hy2.1; have := hy3.1; omega) hy4.1 rfl (by omega))) ?_
 rintro _ W5 ⟨rfl, hb5, ch5⟩
 have zz5 := ch5.size
 refine Wk.rQ 6 89 (.int .i64 104) rfl rfl (Wk.int64 (n := 72 + 32) (z := 104) (by omega) (by omega) (by omega) (by kernel_rfl)) ?_
 refine Wk.rP 7 9 (.int .i64 104) rfl rfl ?_
 refine Wk.rEnd 8 rfl (Wk.inN (Wk.nxt (Wk.reg ?_)))
 refine Wk.rQ 0 90 (.int .i64 3) rfl rfl (Wk.int64 (n := 2 + 1) (z := 3) (by omega) (by omega) (by omega) (by kernel_rfl)) ?_
 refine Wk.rP 1 72 (.int .i64 3) rfl rfl ?_
 refine Wk.rEnd 2 rfl (Wk.nxt (Wk.rdS (wp_seq (Wk.reg ?_))))
 refine Wk.rQ 0 73 (.bool false) rfl rfl (Wk.boolF (b := decide ((3 : Int) < (3 : Int))) (decide_eq_false (by decide)) (by kernel_rfl)) ?_
 refine Wk.rEnd 1 rfl (Wk.nxt (wp_seq (wp_cond_false (by kernel_rfl) (wp_exit (Wk.thX (Wk.thX (Wk.inX (Wk.nxt (wp_seq (Wk.reg ?_))))))))))
 refine Wk.rP 0 91 (.slice (some ⟨w.heap.size, 0, none⟩) 104 104) rfl rfl ?_
 refine Wk.rP 1 4 (.slice (some ⟨w.heap.size, 0, none⟩) 104 104) rfl rfl ?_
 refine Wk.rEnd 2 rfl (Wk.nxt (wp_ret ?_))
 have kk5 := Wk.Chg.step kk4 ch5 ⟨.inr (by omega), trivial⟩
 refine Wk.ret (.slice (some ⟨w.heap.size, 0, none⟩) 104 104) rfl (by kernel_rfl) ?_
 exact ⟨w.heap.size, rfl, Mur.byt_fill hb5 (by simp only [List.length_append]; have := hy1.1; have := hy2.1; have := hy3.1; have := hy4.1; omega), ⟨by omega, by omega⟩, kk5⟩
end Go.Proofs.YtfhneademopciaaDoor
namespace Go.Proofs.YtfhneademopciaaDoor
open Go.RowKit
open Mur (b8s Byt Own8 Seg Segs flat cutA attC)
set_option maxRecDepth 100000
set_option maxHeartbeats 4000000
theorem raw_any (k r t : List UInt8) (n : Int) (hk : k.length = 32) (hr : r.length = 32) (ht : t.length = 32) (w : World) : Calls Tryd.prog 61 #[.agg (attC k r n t).toArray] w fun e w' => ∃ q cq B, Hid (B = Mur.rawL k r n t) ∧ e = .returned (.slice (some ⟨q, 0, none⟩) 104 cq) ∧ Byt w' (some ⟨q, 0, none⟩) 104 B ∧ (w.heap.size ≤ q ∧ q < w'.heap.size) ∧ (104 ≤ cq ∧ cq ≤ 9223372036854775807) ∧ Wk.Chg [] w w' := by
 refine calls_of_wp Tryd.func61 rfl ?_
 refine wp_seq (Wk.reg ?_)
 refine Wk.rEx 0 (some 1) _ rfl rfl (by kernel_rfl) (Wk.new_ex (.pointer (some ⟨w.heap.size, 0, none⟩)) ((Mur.attC k r n t).toArray) 32 (by kernel_rfl)) ?_
 rintro _ W1 ⟨rfl, hb1, ch1, sz1⟩
 have zz1 := ch1.size
 refine Wk.rP 1 2 (.slice none 0 0) rfl rfl ?_
 refine Wk.rEnd 2 rfl (Wk.nxt (wp_seq (Wk.reg ?_)))
 refine Wk.rP 0 4 (.pointer (some ⟨w.heap.size, 64, none⟩)) rfl rfl ?_
 refine Wk.rQ 1 5 (.int .i64 n) rfl rfl (Wk.load1 3 (.tmp 4) rfl (by kernel_rfl) ⟨w.heap.size, 64, none⟩ (by kernel_rfl) (.int .i64 n) (Mur.att_len hk hr hb1)) ?_
 refine Wk.rC 2 6 80 [.tmp 5] #[3] [.int .i64 n] rfl rfl rfl ?_
 refine (eight_any n W1).mono ?_
 rintro _ W2 ⟨e8_1, hd1, hdl1, rfl, ch2⟩
 have zz2 := ch2.size
 refine ⟨_, rfl, ?_⟩
 refine Wk.rEx 3 (some 3) _ rfl rfl (by kernel_rfl) (Wk.new_ex (.pointer (some ⟨W2.heap.size, 0, none⟩)) #[.int .u8 0, .int .u8 0, .int .u8 0, .int .u8 0, .int .u8 0, .int .u8 0, .int .u8 0, .int .u8 0] 127 (by kernel_rfl)) ?_
 rintro _ W3 ⟨rfl, hb2, ch3, sz2⟩
 have zz3 := ch3.size
 refine Wk.rExS 4 none _ rfl rfl (by kernel_rfl) (Mur.storeAll 127 (.tmp 3) (.tmp 6) rfl W2.heap.size (by kernel_rfl) e8_1 8 hdl1 (by kernel_rfl) (by kernel_rfl) 127 #[.int .u8 0, .int .u8 0, .int .u8 0, .int .u8 0, .int .u8 0, .int .u8 0, .int .u8 0, .int .u8 0] hb2 rfl) ?_
 rintro W4 ⟨hb3, ch4⟩
 have zz4 := ch4.size
 refine Wk.rEnd 5 rfl (Wk.nxt (wp_seq ?_))
 refine Wk.dReg ([]) (by kernel_rfl) ?_
 intro W5 ch5 sz3
 have zz5 := ch5.size
 have sS1 : Wk.Chg ([]) W5 W5 := (Wk.Chg.refl _).more (by simp)
 refine Wk.dV 0 7 (.pointer (some ⟨w.heap.size, 0, none⟩)) rfl rfl (fun _ _ => by kernel_rfl) sS1 ?_
 refine Wk.dV 1 8 (.slice (some ⟨w.heap.size, 0, none⟩) 32 32) rfl rfl (fun w' hw' => (Mur.arr_slice 30 5 (.tmp 7) 32 rfl Tryd.underlying30 (by kernel_rfl) w.heap.size (by kernel_rfl))) sS1 ?_
 refine Wk.dV 2 9 (.pointer (some ⟨w.heap.size, 32, none⟩)) rfl rfl (fun _ _ => by kernel_rfl) sS1 ?_
 refine Wk.dV 3 10 (.slice (some ⟨w.heap.size, 32, none⟩) 32 32) rfl rfl (fun w' hw' => (Mur.arr_slice_at 30 5 (.tmp 9) 32 rfl Tryd.underlying30 (by kernel_rfl) w.heap.size 32 (by kernel_rfl))) sS1 ?_
 refine Wk.dV 4 11 (.slice (some ⟨W2.heap.size, 0, none⟩) 8 8) rfl rfl (fun w' hw' => (Mur.arr_slice 127 5 (.tmp 3) 8 rfl Tryd.underlying127 (by kernel_rfl) W2.heap.size (by kernel_rfl))) sS1 ?_
 refine Wk.dV 5 12 (.pointer (some ⟨w.heap.size, 65, none⟩)) rfl rfl (fun _ _ => by kernel_rfl) sS1 ?_
 refine Wk.dV 6 13 (.slice (some ⟨w.heap.size, 65, none⟩) 32 32) rfl rfl (fun w' hw' => (Mur.arr_slice_at 30 5 (.tmp 12) 32 rfl Tryd.underlying30 (by kernel_rfl) w.heap.size 65 (by kernel_rfl))) sS1 ?_
 refine Wk.dOp 7 (by kernel_rfl) ?_
 refine Wk.oEx (some 14) _ rfl rfl (by kernel_rfl) (Wk.new_ex (.slice (some ⟨W5.heap.size, 0, none⟩) 4 4) #[.slice (some ⟨w.heap.size, 0, none⟩) 32 32, .slice (some ⟨w.heap.size, 32, none⟩) 32 32, .slice (some ⟨W2.heap.size, 0, none⟩) 8 8, .slice (some ⟨w.heap.size, 65, none⟩) 32 32] 38 (by kernel_rfl)) ?_
 rintro _ W6 ⟨rfl, hb4, ch6, sz4⟩
 have zz6 := ch6.size
 have sS2 := Wk.Chg.step sS1 ch6 trivial
 refine ⟨sS2, ?_⟩
 refine Wk.dOp 8 (by kernel_rfl) ?_
 refine Wk.oCall (some 15) 81 [.tmp 14, .const (.slice none 0 0)] #[83, 38] [.slice (some ⟨W5.heap.size, 0, none⟩) 4 4, .slice none 0 0] rfl rfl (by kernel_rfl) rfl (by kernel_rfl) (by kernel_rfl) ?_
 refine (Join4_any W5.heap.size 38 (0, 0) (some ⟨w.heap.size, 0, none⟩) (some ⟨w.heap.size, 32, none⟩) (some ⟨W2.heap.size, 0, none⟩) (some ⟨w.heap.size, 65, none⟩) 32 32 8 32 k r e8_1 t W6 hb4 (Mur.byt_rng (Mur.att_key (Wk.Chg.hp ch6 (Wk.Chg.hp ch5 (Wk.Chg.hp ch4 (Wk.Chg.hp ch3 (Wk.Chg.hp ch2 hb1 trivial) trivial) ⟨by omega, trivial⟩) trivial) trivial)) hk) (Mur.byt_rng (Mur.att_root hk (Wk.Chg.hp ch6 (Wk.Chg.hp ch5 (Wk.Chg.hp ch4 (Wk.Chg.hp ch3 (Wk.Chg.hp ch2 hb1 trivial) trivial) ⟨by omega, trivial⟩) trivial) trivial)) hr) (Mur.byt_blk e8_1 hdl1 (Wk.Chg.hp ch6 (Wk.Chg.hp ch5 hb3 trivial) trivial)) (Mur.byt_rng (Mur.att_tag hk hr (Wk.Chg.hp ch6 (Wk.Chg.hp ch5 (Wk.Chg.hp ch4 (Wk.Chg.hp ch3 (Wk.Chg.hp ch2 hb1 trivial) trivial) ⟨by omega, trivial⟩) trivial) trivial)) ht)).mono ?_
 rintro _ W7 ⟨qj1, rfl, hbj1, hq1, ch7⟩
 have zz7 := ch7.size
 have hBt1 : ∀ g off, (some ⟨qj1, 0, none⟩ : Option Addr) = some ⟨g, off, none⟩ → W6.heap.size ≤ g ∧ g < W7.heap.size := fun g off e => by cases e; exact hq1
 have sS3 := Wk.Chg.step sS2 ch7 trivial
 refine ⟨_, rfl, sS3, ?_⟩
 refine Wk.dV 9 2 (.slice (some ⟨qj1, 0, none⟩) 104 104) rfl rfl (fun _ _ => by kernel_rfl) sS3 ?_
 refine Wk.dEnd (by kernel_rfl) (Wk.nxt (wp_ret ?_))
 have kk1 : Wk.Chg [] w W1 := Wk.Chg.step ((Wk.Chg.refl _).more (by simp)) ch1 trivial
 have kk2 := Wk.Chg.step kk1 ch2 trivial
 have kk3 := Wk.Chg.step kk2 ch3 trivial
 have kk4 := Wk.Chg.step kk3 ch4 ⟨.inr (by omega), trivial⟩
 have kk5 := Wk.Chg.step kk4 ch5 trivial
 have kk6 := Wk.Chg.step kk5 ch6 trivial
 have kk7 := Wk.Chg.step kk6 ch7 trivial
 refine Wk.ret (.slice (some ⟨qj1, 0, none⟩) 104 104) rfl (by kernel_rfl) ?_
 exact ⟨_, _, _, Go.Lib.hid (by rw [hd1.out]; rfl), rfl, hbj1, ⟨by omega, by omega⟩, ⟨by omega, by omega⟩, kk7⟩
theorem Rbytes_any (k r t : List UInt8) (n : Int) (hk : k.length = 32) (hr : r.length = 32) (ht : t.length = 32) (w : World) : Calls Tryd.prog 48 #[.agg (attC k r n t).toArray] w fun e w' => ∃ q cq B, Hid (B = Mur.rawL k r n t) ∧ e = .returned (.slice (some ⟨q, 0, none⟩) 104 cq) ∧ Byt w' (some ⟨q, 0, none⟩) 104 B ∧ (w.heap.size ≤ q ∧ q < w'.heap.size) ∧ (104 ≤ cq ∧ cq ≤ 9223372036854775807) ∧ Wk.Chg [] w w' := by
 refine calls_of_wp Tryd.func48 rfl ?_
 refine wp_seq (Wk.reg ?_)
 refine Wk.rEx 0 (some 1) _ rfl rfl (by kernel_rfl) (Wk.new_ex (.pointer (some ⟨w.heap.size, 0, none⟩)) ((Mur.attC k r n t).toArray) 32 (by kernel_rfl)) ?_
 rintro _ W1 ⟨rfl, hb1, ch1, sz1⟩
 have zz1 := ch1.size
 refine Wk.rP 1 2 (.slice none 0 0) rfl rfl ?_
 refine Wk.rEnd 2 rfl (Wk.nxt (wp_seq (Wk.reg ?_)))
 refine Wk.rP 0 3 (.slice none 0 0) rfl rfl ?_
 refine Wk.rEnd 1 rfl (Wk.nxt (wp_seq (Wk.reg ?_)))
 refine Wk.rP 0 4 (.slice none 0 0) rfl rfl ?_
 refine Wk.rP 1 5 (.pointer (some ⟨w.heap.size, 0, none⟩)) rfl rfl ?_
 refine Wk.rQ 2 6 (.slice (some ⟨w.heap.size, 0, none⟩) 32 32) rfl rfl (Mur.arr_slice 30 5 (.tmp 5) 32 rfl Tryd.underlying30 (by kernel_rfl) w.heap.size (by kernel_rfl)) ?_
 have ow1 := Mur.own8_nil W1 W1.heap.size 5
 refine Wk.rEx 3 (some 7) _ rfl rfl (by kernel_rfl) (Mur.append8 (.tmp 4) (.tmp 6) 38 5 rfl Tryd.underlying38 (by kernel_rfl) W1.heap.size none 0 0 ([]) (some ⟨w.heap.size, 0, none⟩) 32 32 k (by kernel_rfl) (by kernel_rfl) ow1.own (Mur.byt_rng (Mur.att_key hb1) hk) (fun h => by cases h) (by omega) (by omega) 32 (by omega) k rfl) ?_
 rintro _ W2 ⟨AA1, nn1, rfl, ow2, ch2, ha1⟩
 have zz2 := ch2.size
 have hq1 := ow2.nc
 have hq2 := ow2.cm
 refine Wk.rP 4 3 (.slice AA1 32 nn1) rfl rfl ?_
 refine Wk.rEnd 5 rfl (Wk.nxt (wp_seq (Wk.reg ?_)))
 refine Wk.rP 0 8 (.slice AA1 32 nn1) rfl rfl ?_
 refine Wk.rP 1 9 (.pointer (some ⟨w.heap.size, 32, none⟩)) rfl rfl ?_
 refine Wk.rQ 2 10 (.slice (some ⟨w.heap.size, 32, none⟩) 32 32) rfl rfl (Mur.arr_slice_at 30 5 (.tmp 9) 32 rfl Tryd.underlying30 (by kernel_rfl) w.heap.size 32 (by kernel_rfl)) ?_
 refine Wk.rEx 3 (some 11) _ rfl rfl (by kernel_rfl) (Mur.append8 (.tmp 8) (.tmp 10) 38 5 rfl Tryd.underlying38 (by kernel_rfl) W1.heap.size AA1 32 nn1 k (some ⟨w.heap.size, 32, none⟩) 32 32 r (by kernel_rfl) (by kernel_rfl) ow2.own (Mur.byt_rng (Mur.att_root hk (Wk.Chg.hp ch2 hb1 (Wk.off_blk (fun gz hgz => by have := ow1.lt gz hgz; omega)))) hr) (fun h => by cases h) (by omega) (by omega) 64 (by omega) (k ++ r) rfl) ?_
 rintro _ W3 ⟨AA2, nn2, rfl, ow3, ch3, ha2⟩
 have zz3 := ch3.size
 have hq3 := ow3.nc
 have hq4 := ow3.cm
 refine Wk.rP 4 3 (.slice AA2 64 nn2) rfl rfl ?_
 refine Wk.rEnd 5 rfl (Wk.nxt (wp_seq (Wk.reg ?_)))
 refine Wk.rP 0 12 (.slice AA2 64 nn2) rfl rfl ?_
 refine Wk.rP 1 13 (.pointer (some ⟨w.heap.size, 64, none⟩)) rfl rfl ?_
 refine Wk.rQ 2 14 (.int .i64 n) rfl rfl (Wk.load1 3 (.tmp 13) rfl (by kernel_rfl) ⟨w.heap.size, 64, none⟩ (by kernel_rfl) (.int .i64 n) (Mur.att_len hk hr (Wk.Chg.hp ch3 (Wk.Chg.hp ch2 hb1 (Wk.off_blk (fun gz hgz => by have := ow1.lt gz hgz; omega))) (Wk.off_blk (fun gz hgz => by have := ow2.lt gz hgz; omega))))) ?_
 refine Wk.rC 3 15 71 [.tmp 14] #[3] [.int .i64 n] rfl rfl rfl ?_
 refine (Reight_any n W3).mono ?_
 rintro _ W4 ⟨qe1, EE1, hE1, rfl, hbe1, hq5, ch4⟩
 have zz4 := ch4.size
 have hBt1 : ∀ g off, (some ⟨qe1, 0, none⟩ : Option Addr) = some ⟨g, off, none⟩ → W3.heap.size ≤ g ∧ g < W4.heap.size := fun g off e => by cases e; exact hq5
 refine ⟨_, rfl, ?_⟩
 have ow4 := Mur.own8 (Wk.own_chg ow3.own ch4 (fun q e _ _ => trivial))
 refine Wk.rEx 4 (some 16) _ rfl rfl (by kernel_rfl) (Mur.append8 (.tmp 12) (.tmp 15) 38 5 rfl Tryd.underlying38 (by kernel_rfl) W1.heap.size AA2 64 nn2 (k ++ r) (some ⟨qe1, 0, none⟩) 8 8 EE1 (by kernel_rfl) (by kernel_rfl) ow4.own hbe1 (fun h => by cases h) (by omega) (by omega) 72 (by omega) ((k ++ r) ++ EE1) rfl) ?_
 rintro _ W5 ⟨AA3, nn3, rfl, ow5, ch5, ha3⟩
 have zz5 := ch5.size
 have hq6 := ow5.nc
 have hq7 := ow5.cm
 refine Wk.rP 5 3 (.slice AA3 72 nn3) rfl rfl ?_
 refine Wk.rEnd 6 rfl (Wk.nxt (wp_seq (Wk.reg ?_)))
 refine Wk.rP 0 17 (.slice AA3 72 nn3) rfl rfl ?_
 refine Wk.rP 1 18 (.pointer (some ⟨w.heap.size, 65, none⟩)) rfl rfl ?_
 refine Wk.rQ 2 19 (.slice (some ⟨w.heap.size, 65, none⟩) 32 32) rfl rfl (Mur.arr_slice_at 30 5 (.tmp 18) 32 rfl Tryd.underlying30 (by kernel_rfl) w.heap.size 65 (by kernel_rfl)) ?_
 refine Wk.rEx 3 (some 20) _ rfl rfl (by kernel_rfl) (Mur.append8 (.tmp 17) (.tmp 19) 38 5 rfl Tryd.underlying38 (by kernel_rfl) W1.heap.size AA3 72 nn3 ((k ++ r) ++ EE1) (some ⟨w.heap.size, 65, none⟩) 32 32 t (by kernel_rfl) (by kernel_rfl) ow5.own (Mur.byt_rng (Mur.att_tag hk hr (Wk.Chg.hp ch5 (Wk.Chg.hp ch4 (Wk.Chg.hp ch3 (Wk.Chg.hp ch2 hb1 (Wk.off_blk (fun gz hgz => by have := ow1.lt gz hgz; omega))) (Wk.off_blk (fun gz hgz => by have := ow2.lt gz hgz; omega))) trivial) (Wk.off_blk (fun gz hgz => by have := ow3.lt gz hgz; omega)))) ht) (fun h => by cases h) (by omega) (by omega) 104 (by omega) (((k ++ r) ++ EE1) ++ t) rfl) ?_
 rintro _ W6 ⟨AA4, nn4, rfl, ow6, ch6, ha4⟩
 have zz6 := ch6.size
 have hq8 := ow6.nc
 have hq9 := ow6.cm
 refine Wk.rP 4 2 (.slice AA4 104 nn4) rfl rfl ?_
 refine Wk.rEnd 5 rfl (Wk.nxt (wp_ret ?_))
 obtain ⟨q, hq_, hqb, hql⟩ : ∃ g, AA4 = some ⟨g, 0, none⟩ ∧ W1.heap.size ≤ g ∧ g < W6.heap.size := Mur.own8_someq ow6 (by omega)
 subst hq_
 have kk1 : Wk.Chg [] w W1 := Wk.Chg.step ((Wk.Chg.refl _).more (by simp)) ch1 trivial
 have kk2 := Wk.Chg.step kk1 ch2 (Wk.newOr_blk (fun g hg => by have := ow1.lt g hg; omega))
 have kk3 := Wk.Chg.step kk2 ch3 (Wk.newOr_blk (fun g hg => by have := ow2.lt g hg; omega))
 have kk4 := Wk.Chg.step kk3 ch4 trivial
 have kk5 := Wk.Chg.step kk4 ch5 (Wk.newOr_blk (fun g hg => by have := ow3.lt g hg; omega))
 have kk6 := Wk.Chg.step kk5 ch6 (Wk.newOr_blk (fun g hg => by have := ow5.lt g hg; omega))
 refine Wk.ret (.slice (some ⟨q, 0, none⟩) 104 nn4) rfl (by kernel_rfl) ?_
 exact ⟨q, nn4, _, Go.Lib.hid (by rw [hE1.out]; simp only [Mur.rawL, List.append_assoc]), rfl, ow6.byt, ⟨by omega, by omega⟩, ⟨by omega, by have h_ := ow6.cm; unfold Go.maxLen at h_; omega⟩, kk6⟩
theorem Compare_any (A : Option Addr) (n c : Nat) (l : List UInt8) (B : Option Addr) (m d : Nat) (r : List UInt8) (w : World) (hy1 : Byt w A n l) (hy2 : Byt w B m r) : Calls Tryd.prog 79 #[.slice A n c, .slice B m d] w fun e w' => e = .returned (.int .i64 (Go.Lib.compareBytes l r)) ∧ w = w' := by
 refine calls_of_wp Tryd.func79 rfl ?_
 refine wp_seq (Wk.reg ?_)
 refine Wk.rP 0 4 (.int .i64 0) rfl rfl ?_
 refine Wk.rEnd 1 rfl (Wk.nxt (wp_seq (Wk.reg ?_)))
 refine Wk.rP 0 5 (.slice A n c) rfl rfl ?_
 refine Wk.rP 1 6 (.slice B m d) rfl rfl ?_
 refine Wk.rQ 2 7 (.int .i64 (Go.Lib.compareBytes l r)) rfl rfl (Mur.run_cmp Tryd.func90 (by kernel_rfl) (by kernel_rfl) (by kernel_rfl) (by kernel_rfl) (.tmp 5) (.tmp 6) _ rfl A n c l B m d r (by kernel_rfl) (by kernel_rfl) hy1 hy2) ?_
 refine Wk.rP 3 4 (.int .i64 (Go.Lib.compareBytes l r)) rfl rfl ?_
 refine Wk.rEnd 4 rfl (Wk.nxt (wp_ret ?_))
 refine Wk.ret (.int .i64 (Go.Lib.compareBytes l r)) rfl (by kernel_rfl) ?_
 exact ⟨rfl, rfl⟩
theorem Less_any (k1 r1 t1 : List UInt8) (n1 : Int) (hk1 : k1.length = 32) (hr1 : r1.length = 32) (ht1 : t1.length = 32) (k2 r2 t2 : List UInt8) (n2 : Int) (hk2 : k2.length = 32) (hr2 : r2.length = 32) (ht2 : t2.length = 32) (w : World) : Calls Tryd.prog 59 #[.agg (attC k1 r1 n1 t1).toArray, .agg (attC k2 r2 n2 t2).toArray] w fun e w' => e = .returned (.bool (decide (Go.Lib.compareBytes (Mur.rawL k1 r1 n1 t1) (Mur.rawL k2 r2 n2 t2) < 0))) ∧ Wk.Chg [] w w' := by
 refine calls_of_wp Tryd.func59 rfl ?_
 refine wp_seq (Wk.reg ?_)
 refine Wk.rEx 0 (some 2) _ rfl rfl (by kernel_rfl) (Wk.new_ex (.pointer (some ⟨w.heap.size, 0, none⟩)) ((Mur.attC k1 r1 n1 t1).toArray) 32 (by kernel_rfl)) ?_
 rintro _ W1 ⟨rfl, hb1, ch1, sz1⟩
 have zz1 := ch1.size
 refine Wk.rEx 1 (some 3) _ rfl rfl (by kernel_rfl) (Wk.new_ex (.pointer (some ⟨W1.heap.size, 0, none⟩)) ((Mur.attC k2 r2 n2 t2).toArray) 32 (by kernel_rfl)) ?_
 rintro _ W2 ⟨rfl, hb2, ch2, sz2⟩
 have zz2 := ch2.size
 refine Wk.rP 2 4 (.bool false) rfl rfl ?_
 refine Wk.rEnd 3 rfl (Wk.nxt (wp_seq ?_))
 refine Wk.dReg ([]) (by kernel_rfl) ?_
 intro W3 ch3 sz3
 have zz3 := ch3.size
 have sS1 : Wk.Chg ([]) W3 W3 := (Wk.Chg.refl _).more (by simp)
 refine Wk.dV 0 5 (.agg ((Mur.attC k1 r1 n1 t1).toArray)) rfl rfl (fun w' hw' => (Mur.loadArr 32 (.tmp 2) rfl _ Tryd.underlying32 rfl w.heap.size (by kernel_rfl) (Mur.attC k1 r1 n1 t1).toArray 97 (Mur.attC_size hk1 hr1 ht1) (by kernel_rfl) 32 (0, 0) (Wk.Chg.hp hw' (Wk.Chg.hp ch3 (Wk.Chg.hp ch2 hb1 trivial) trivial) trivial))) sS1 ?_
 refine Wk.dV 2 7 (.agg ((Mur.attC k2 r2 n2 t2).toArray)) rfl rfl (fun w' hw' => (Mur.loadArr 32 (.tmp 3) rfl _ Tryd.underlying32 rfl W1.heap.size (by kernel_rfl) (Mur.attC k2 r2 n2 t2).toArray 97 (Mur.attC_size hk2 hr2 ht2) (by kernel_rfl) 32 (0, 0) (Wk.Chg.hp hw' (Wk.Chg.hp ch3 hb2 trivial) trivial))) sS1 ?_
 refine Wk.dOp 1 (by kernel_rfl) ?_
 refine Wk.oCall (some 6) 61 [.tmp 5] #[32] [.agg ((Mur.attC k1 r1 n1 t1).toArray)] rfl rfl (by kernel_rfl) rfl (by kernel_rfl) (by kernel_rfl) ?_
 refine (raw_any k1 r1 t1 n1 hk1 hr1 ht1 W3).mono ?_
 rintro _ W4 ⟨qr1, cr1, RB1, hRB1, rfl, hbr1, hq1, hq2, ch4⟩
 have zz4 := ch4.size
 have hBt1 : ∀ g off, (some ⟨qr1, 0, none⟩ : Option Addr) = some ⟨g, off, none⟩ → W3.heap.size ≤ g ∧ g < W4.heap.size := fun g off e => by cases e; exact hq1
 have sS2 := Wk.Chg.step sS1 ch4 trivial
 refine ⟨_, rfl, sS2, ?_⟩
 refine Wk.dOp 3 (by kernel_rfl) ?_
 refine Wk.oCall (some 8) 61 [.tmp 7] #[32] [.agg ((Mur.attC k2 r2 n2 t2).toArray)] rfl rfl (by kernel_rfl) rfl (by kernel_rfl) (by kernel_rfl) ?_
 refine (raw_any k2 r2 t2 n2 hk2 hr2 ht2 W4).mono ?_
 rintro _ W5 ⟨qr2, cr2, RB2, hRB2, rfl, hbr2, hq3, hq4, ch5⟩
 have zz5 := ch5.size
 have hBt2 : ∀ g off, (some ⟨qr2, 0, none⟩ : Option Addr) = some ⟨g, off, none⟩ → W4.heap.size ≤ g ∧ g < W5.heap.size := fun g off e => by cases e; exact hq3
 have sS3 := Wk.Chg.step sS2 ch5 trivial
 refine ⟨_, rfl, sS3, ?_⟩
 refine Wk.dOp 4 (by kernel_rfl) ?_
 refine Wk.oCall (some 9) 79 [.tmp 6, .tmp 8] #[38, 38] [.slice (some ⟨qr1, 0, none⟩) 104 cr1, .slice (some ⟨qr2, 0, none⟩) 104 cr2] rfl rfl (by kernel_rfl) rfl (by kernel_rfl) (by kernel_rfl) ?_
 refine (Compare_any (some ⟨qr1, 0, none⟩) 104 cr1 RB1 (some ⟨qr2, 0, none⟩) 104 cr2 RB2 W5 (Mur.byt_chg hbr1 ch5 (fun g off e hl => trivial)) hbr2).mono ?_
 rintro _ _ ⟨rfl, rfl⟩
 refine ⟨_, rfl, sS3, ?_⟩
 by_cases hx1 : (Go.Lib.compareBytes RB1 RB2) < (0 : Int)
 ·refine Wk.dV 5 10 (.bool true) rfl rfl (fun w' hw' => (Wk.boolT (b := decide ((Go.Lib.compareBytes RB1 RB2) < (0 : Int))) (decide_eq_true (by first | exact hx1 | omega)) (by kernel_rfl))) sS3 ?_
  refine Wk.dV 6 4 (.bool true) rfl rfl (fun _ _ => by kernel_rfl) sS3 ?_
  refine Wk.dEnd (by kernel_rfl) (Wk.nxt (wp_ret ?_))
  have kk1 : Wk.Chg [] w W1 := Wk.Chg.step ((Wk.Chg.refl _).more (by simp)) ch1 trivial
  have kk2 := Wk.Chg.step kk1 ch2 trivial
  have kk3 := Wk.Chg.step kk2 ch3 trivial
  have kk4 := Wk.Chg.step kk3 ch4 trivial
  have kk5 := Wk.Chg.step kk4 ch5 trivial
  refine Wk.ret (.bool true) rfl (by kernel_rfl) ?_
  exact ⟨by rw [← hRB1.out, ← hRB2.out, decide_eq_true (by assumption)], kk5⟩
 refine Wk.dV 5 10 (.bool false) rfl rfl (fun w' hw' => (Wk.boolF (b := decide ((Go.Lib.compareBytes RB1 RB2) < (0 : Int))) (decide_eq_false (by first | exact hx1 | omega)) (by kernel_rfl))) sS3 ?_
 refine Wk.dV 6 4 (.bool false) rfl rfl (fun _ _ => by kernel_rfl) sS3 ?_
 refine Wk.dEnd (by kernel_rfl) (Wk.nxt (wp_ret ?_))
 have kk6 : Wk.Chg [] w W1 := Wk.Chg.step ((Wk.Chg.refl _).more (by simp)) ch1 trivial
 have kk7 := Wk.Chg.step kk6 ch2 trivial
 have kk8 := Wk.Chg.step kk7 ch3 trivial
 have kk9 := Wk.Chg.step kk8 ch4 trivial
 have kk10 := Wk.Chg.step kk9 ch5 trivial
 refine Wk.ret (.bool false) rfl (by kernel_rfl) ?_
 exact ⟨by rw [← hRB1.out, ← hRB2.out, decide_eq_false (by assumption)], kk10⟩
end Go.Proofs.YtfhneademopciaaDoor
namespace Go.Proofs.YtfhneademopciaaDoor
open Go.RowKit
open Mur (b8s Byt Own8 Seg Segs flat cutA attC)
set_option maxRecDepth 100000
set_option maxHeartbeats 4000000
theorem Bytes_ok (k r t : List UInt8) (n : Int) (hk : k.length = 32) (hr : r.length = 32) (ht : t.length = 32) (w : World) (hm : Mur.may n) : Calls Tryd.prog 38 #[.agg (attC k r n t).toArray] w fun e w' => ∃ q cq B, Hid (B = Mur.rawL k r n t) ∧ e = .returned (.tuple #[.slice (some ⟨q, 0, none⟩) 104 cq, .int .i64 0]) ∧ Byt w' (some ⟨q, 0, none⟩) 104 B ∧ (w.heap.size ≤ q ∧ q < w'.heap.size) ∧ (104 ≤ cq ∧ cq ≤ 9223372036854775807) ∧ Wk.Chg [] w w' := by
 refine calls_of_wp Tryd.func38 rfl ?_
 refine wp_seq (Wk.reg ?_)
 refine Wk.rEx 0 (some 1) _ rfl rfl (by kernel_rfl) (Wk.new_ex (.pointer (some ⟨w.heap.size, 0, none⟩)) ((Mur.attC k r n t).toArray) 32 (by kernel_rfl)) ?_
 rintro _ W1 ⟨rfl, hb1, ch1, sz1⟩
 have zz1 := ch1.size
 refine Wk.rP 1 2 (.slice none 0 0) rfl rfl ?_
 refine Wk.rP 2 3 (.int .i64 0) rfl rfl ?_
 refine Wk.rEnd 3 rfl (Wk.nxt (wp_seq (wp_seq (Wk.reg ?_))))
 refine Wk.rQ 0 4 (.agg ((Mur.attC k r n t).toArray)) rfl rfl (Mur.loadArr 32 (.tmp 1) rfl _ Tryd.underlying32 rfl w.heap.size (by kernel_rfl) (Mur.attC k r n t).toArray 97 (Mur.attC_size hk hr ht) (by kernel_rfl) 32 (0, 0) hb1) ?_
 refine Wk.rC 1 5 60 [.tmp 4] #[32] [.agg ((Mur.attC k r n t).toArray)] rfl rfl rfl ?_
 refine (may_any k r t n hk hr ht W1).mono ?_
 rw [decide_eq_true (hm : Mur.may n)]
 rintro _ W2 ⟨rfl, ch2⟩
 have zz2 := ch2.size
 refine ⟨_, rfl, ?_⟩
 refine Wk.rP 2 6 (.bool false) rfl rfl ?_
 refine Wk.rEnd 3 rfl (Wk.nxt (wp_cond_false (by kernel_rfl) (wp_skip (Wk.nxt (wp_seq (Wk.reg ?_))))))
 refine Wk.rQ 0 7 (.agg ((Mur.attC k r n t).toArray)) rfl rfl (Mur.loadArr 32 (.tmp 1) rfl _ Tryd.underlying32 rfl w.heap.size (by kernel_rfl) (Mur.attC k r n t).toArray 97 (Mur.attC_size hk hr ht) (by kernel_rfl) 32 (0, 0) (Wk.Chg.hp ch2 hb1 trivial)) ?_
 refine Wk.rC 1 8 61 [.tmp 7] #[32] [.agg ((Mur.attC k r n t).toArray)] rfl rfl rfl ?_
 refine (raw_any k r t n hk hr ht W2).mono ?_
 rintro _ W3 ⟨qr1, cr1, RB1, hRB1, rfl, hbr1, hq1, hq2, ch3⟩
 have zz3 := ch3.size
 have hBt1 : ∀ g off, (some ⟨qr1, 0, none⟩ : Option Addr) = some ⟨g, off, none⟩ → W2.heap.size ≤ g ∧ g < W3.heap.size := fun g off e => by cases e; exact hq1
 refine ⟨_, rfl, ?_⟩
 refine Wk.rP 2 2 (.slice (some ⟨qr1, 0, none⟩) 104 cr1) rfl rfl ?_
 refine Wk.rP 3 3 (.int .i64 0) rfl rfl ?_
 refine Wk.rEnd 4 rfl (Wk.nxt (wp_ret ?_))
 have kk1 : Wk.Chg [] w W1 := Wk.Chg.step ((Wk.Chg.refl _).more (by simp)) ch1 trivial
 have kk2 := Wk.Chg.step kk1 ch2 trivial
 have kk3 := Wk.Chg.step kk2 ch3 trivial
 refine Wk.ret (.tuple #[.slice (some ⟨qr1, 0, none⟩) 104 cr1, .int .i64 0]) rfl (by kernel_rfl) ?_
 exact ⟨_, _, _, hRB1, rfl, hbr1, ⟨by omega, by omega⟩, ⟨by omega, by omega⟩, kk3⟩
theorem Bytes_no (k r t : List UInt8) (n : Int) (hk : k.length = 32) (hr : r.length = 32) (ht : t.length = 32) (w : World) (hm : ¬ Mur.may n) : Calls Tryd.prog 38 #[.agg (attC k r n t).toArray] w fun e w' => e = .returned (.tuple #[.slice none 0 0, .int .i64 2]) ∧ Wk.Chg [] w w' := by
 refine calls_of_wp Tryd.func38 rfl ?_
 refine wp_seq (Wk.reg ?_)
 refine Wk.rEx 0 (some 1) _ rfl rfl (by kernel_rfl) (Wk.new_ex (.pointer (some ⟨w.heap.size, 0, none⟩)) ((Mur.attC k r n t).toArray) 32 (by kernel_rfl)) ?_
 rintro _ W1 ⟨rfl, hb1, ch1, sz1⟩
 have zz1 := ch1.size
 refine Wk.rP 1 2 (.slice none 0 0) rfl rfl ?_
 refine Wk.rP 2 3 (.int .i64 0) rfl rfl ?_
 refine Wk.rEnd 3 rfl (Wk.nxt (wp_seq (wp_seq (Wk.reg ?_))))
 refine Wk.rQ 0 4 (.agg ((Mur.attC k r n t).toArray)) rfl rfl (Mur.loadArr 32 (.tmp 1) rfl _ Tryd.underlying32 rfl w.heap.size (by kernel_rfl) (Mur.attC k r n t).toArray 97 (Mur.attC_size hk hr ht) (by kernel_rfl) 32 (0, 0) hb1) ?_
 refine Wk.rC 1 5 60 [.tmp 4] #[32] [.agg ((Mur.attC k r n t).toArray)] rfl rfl rfl ?_
 refine (may_any k r t n hk hr ht W1).mono ?_
 rw [decide_eq_false (hm : ¬ Mur.may n)]
 rintro _ W2 ⟨rfl, ch2⟩
 have zz2 := ch2.size
 refine ⟨_, rfl, ?_⟩
 refine Wk.rP 2 6 (.bool true) rfl rfl ?_
 refine Wk.rEnd 3 rfl (Wk.nxt (wp_cond_true (by kernel_rfl) (wp_seq (Wk.reg ?_))))
 refine Wk.rP 0 2 (.slice none 0 0) rfl rfl ?_
 refine Wk.rP 1 3 (.int .i64 2) rfl rfl ?_
 refine Wk.rEnd 2 rfl (Wk.nxt (wp_ret (Wk.thR ?_)))
 have kk1 : Wk.Chg [] w W1 := Wk.Chg.step ((Wk.Chg.refl _).more (by simp)) ch1 trivial
 have kk2 := Wk.Chg.step kk1 ch2 trivial
 refine Wk.ret (.tuple #[.slice none 0 0, .int .i64 2]) rfl (by kernel_rfl) ?_
 exact ⟨rfl, kk2⟩
end Go.Proofs.YtfhneademopciaaDoor
namespace Go.Proofs.YtfhneademopciaaDoor
open Go.RowKit
open Mur (b8s Byt Own8 Seg Segs flat cutA attC Att SlA OwnA rowA)
set_option maxRecDepth 100000
set_option maxHeartbeats 4000000
def Idx15_F1 (b : Array Value) (u0 : Value) (u1 : Value) (u7 : Value) (u8 : Value) : Act := ⟨#[u0, u1, b.getD 2 undef, b.getD 3 undef, b.getD 4 undef, b.getD 5 undef, b.getD 6 undef, u7, u8, b.getD 9 undef, b.getD 10 undef, b.getD 11 undef, b.getD 12 undef, b.getD 13 undef, b.getD 14 undef, b.getD 15 undef, b.getD 16 undef, b.getD 17 undef, b.getD 18 undef], []⟩
theorem compare_any (x y : Att) (w : World) : Calls Tryd.prog 40 #[.agg (attC x.k x.r x.n x.t).toArray, .agg (attC y.k y.r y.n y.t).toArray] w fun e w' => e = .returned (.int .i64 (Mur.cmpA x y)) ∧ Wk.Chg [] w w' := by
 refine calls_of_wp Tryd.func40 rfl ?_
 refine wp_seq (Wk.reg ?_)
 refine Wk.rEx 0 (some 2) _ rfl rfl (by kernel_rfl) (Wk.new_ex (.pointer (some ⟨w.heap.size, 0, none⟩)) ((Mur.attC x.k x.r x.n x.t).toArray) 32 (by kernel_rfl)) ?_
 rintro _ W1 ⟨rfl, hb1, ch1, sz1⟩
 have zz1 := ch1.size
 refine Wk.rEx 1 (some 3) _ rfl rfl (by kernel_rfl) (Wk.new_ex (.pointer (some ⟨W1.heap.size, 0, none⟩)) ((Mur.attC y.k y.r y.n y.t).toArray) 32 (by kernel_rfl)) ?_
 rintro _ W2 ⟨rfl, hb2, ch2, sz2⟩
 have zz2 := ch2.size
 refine Wk.rP 2 4 (.int .i64 0) rfl rfl ?_
 refine Wk.rEnd 3 rfl (Wk.nxt (wp_seq (wp_block (wp_seq (Wk.reg ?_)))))
 refine Wk.rQ 0 6 (.agg ((Mur.attC x.k x.r x.n x.t).toArray)) rfl rfl (Mur.loadArr 32 (.tmp 2) rfl _ Tryd.underlying32 rfl w.heap.size (by kernel_rfl) (Mur.attC x.k x.r x.n x.t).toArray 97 (Mur.attC_size x.hk x.hr x.ht) (by kernel_rfl) 32 (0, 0) (Wk.Chg.hp ch2 hb1 trivial)) ?_
 refine Wk.rQ 1 7 (.agg ((Mur.attC y.k y.r y.n y.t).toArray)) rfl rfl (Mur.loadArr 32 (.tmp 3) rfl _ Tryd.underlying32 rfl W1.heap.size (by kernel_rfl) (Mur.attC y.k y.r y.n y.t).toArray 97 (Mur.attC_size y.hk y.hr y.ht) (by kernel_rfl) 32 (0, 0) hb2) ?_
 refine Wk.rC 2 8 59 [.tmp 6, .tmp 7] #[32, 32] [.agg ((Mur.attC x.k x.r x.n x.t).toArray), .agg ((Mur.attC y.k y.r y.n y.t).toArray)] rfl rfl rfl ?_
 refine (Less_any x.k x.r x.t x.n x.hk x.hr x.ht y.k y.r y.t y.n y.hk y.hr y.ht W2).mono ?_
 by_cases hls1 : Go.Lib.compareBytes (Mur.rawL x.k x.r x.n x.t) (Mur.rawL y.k y.r y.n y.t) < 0
 ·rw [decide_eq_true (hls1 : Go.Lib.compareBytes (Mur.rawL x.k x.r x.n x.t) (Mur.rawL y.k y.r y.n y.t) < 0)]
  rintro _ W3 ⟨rfl, ch3⟩
  have zz3 := ch3.size
  refine ⟨_, rfl, ?_⟩
  refine Wk.rP 3 5 (.bool true) rfl rfl ?_
  refine Wk.rEnd 4 rfl (Wk.nxt (wp_cond_true (by kernel_rfl) (wp_seq (Wk.reg ?_))))
  refine Wk.rP 0 4 (.int .i64 (-1)) rfl rfl ?_
  refine Wk.rEnd 1 rfl (Wk.nxt (wp_ret (Wk.inR (Wk.thR ?_))))
  have kk1 : Wk.Chg [] w W1 := Wk.Chg.step ((Wk.Chg.refl _).more (by simp)) ch1 trivial
  have kk2 := Wk.Chg.step kk1 ch2 trivial
  have kk3 := Wk.Chg.step kk2 ch3 trivial
  refine Wk.ret (.int .i64 (-1)) rfl (by kernel_rfl) ?_
  exact ⟨congrArg (fun z => Ending.returned (.int .i64 z)) (show (-1) = Mur.cmpA x y from (show Mur.cmpA x y = (-1) from if_pos hls1).symm), kk3⟩
 rw [decide_eq_false (hls1 : ¬ Go.Lib.compareBytes (Mur.rawL x.k x.r x.n x.t) (Mur.rawL y.k y.r y.n y.t) < 0)]
 rintro _ W3 ⟨rfl, ch3⟩
 have zz4 := ch3.size
 refine ⟨_, rfl, ?_⟩
 refine Wk.rP 3 5 (.bool false) rfl rfl ?_
 refine Wk.rEnd 4 rfl (Wk.nxt (wp_cond_false (by kernel_rfl) (wp_seq (Wk.reg ?_))))
 refine Wk.rQ 0 10 (.agg ((Mur.attC x.k x.r x.n x.t).toArray)) rfl rfl (Mur.loadArr 32 (.tmp 2) rfl _ Tryd.underlying32 rfl w.heap.size (by kernel_rfl) (Mur.attC x.k x.r x.n x.t).toArray 97 (Mur.attC_size x.hk x.hr x.ht) (by kernel_rfl) 32 (0, 0) (Wk.Chg.hp ch3 (Wk.Chg.hp ch2 hb1 trivial) trivial)) ?_
 refine Wk.rQ 1 11 (.agg ((Mur.attC y.k y.r y.n y.t).toArray)) rfl rfl (Mur.loadArr 32 (.tmp 3) rfl _ Tryd.underlying32 rfl W1.heap.size (by kernel_rfl) (Mur.attC y.k y.r y.n y.t).toArray 97 (Mur.attC_size y.hk y.hr y.ht) (by kernel_rfl) 32 (0, 0) (Wk.Chg.hp ch3 hb2 trivial)) ?_
 by_cases hatt1 : x.k = y.k ∧ x.r = y.r ∧ x.n = y.n ∧ x.t = y.t
 ·refine Wk.rQ 2 12 (.bool true) rfl rfl (Wk.boolT (b := decide (x.k = y.k ∧ x.r = y.r ∧ x.n = y.n ∧ x.t = y.t)) (decide_eq_true (hatt1)) (run_eql_att (.tmp 10) (.tmp 11) 32 rfl x.hk x.hr x.ht y.hk y.hr y.ht x.hn y.hn (by kernel_rfl) (by kernel_rfl))) ?_
  refine Wk.rP 3 9 (.bool true) rfl rfl ?_
  refine Wk.rEnd 4 rfl (Wk.nxt (wp_cond_true (by kernel_rfl) (wp_seq (Wk.reg ?_))))
  refine Wk.rP 0 4 (.int .i64 0) rfl rfl ?_
  refine Wk.rEnd 1 rfl (Wk.nxt (wp_ret (Wk.inR (Wk.thR ?_))))
  have kk4 : Wk.Chg [] w W1 := Wk.Chg.step ((Wk.Chg.refl _).more (by simp)) ch1 trivial
  have kk5 := Wk.Chg.step kk4 ch2 trivial
  have kk6 := Wk.Chg.step kk5 ch3 trivial
  refine Wk.ret (.int .i64 0) rfl (by kernel_rfl) ?_
  exact ⟨congrArg (fun z => Ending.returned (.int .i64 z)) (show (0 : Int) = Mur.cmpA x y from (show Mur.cmpA x y = 0 from (if_neg hls1).trans (if_pos ((Mur.Att.eq_iff x y).2 hatt1))).symm), kk6⟩
 refine Wk.rQ 2 12 (.bool false) rfl rfl (Wk.boolF (b := decide (x.k = y.k ∧ x.r = y.r ∧ x.n = y.n ∧ x.t = y.t)) (decide_eq_false (hatt1)) (run_eql_att (.tmp 10) (.tmp 11) 32 rfl x.hk x.hr x.ht y.hk y.hr y.ht x.hn y.hn (by kernel_rfl) (by kernel_rfl))) ?_
 refine Wk.rP 3 9 (.bool false) rfl rfl ?_
 refine Wk.rEnd 4 rfl (Wk.nxt (wp_cond_false (by kernel_rfl) (wp_skip (Wk.inN (Wk.nxt (wp_seq (Wk.reg ?_)))))))
 refine Wk.rP 0 4 (.int .i64 1) rfl rfl ?_
 refine Wk.rEnd 1 rfl (Wk.nxt (wp_ret ?_))
 have kk7 : Wk.Chg [] w W1 := Wk.Chg.step ((Wk.Chg.refl _).more (by simp)) ch1 trivial
 have kk8 := Wk.Chg.step kk7 ch2 trivial
 have kk9 := Wk.Chg.step kk8 ch3 trivial
 refine Wk.ret (.int .i64 1) rfl (by kernel_rfl) ?_
 exact ⟨congrArg (fun z => Ending.returned (.int .i64 z)) (show (1 : Int) = Mur.cmpA x y from (show Mur.cmpA x y = 1 from (if_neg hls1).trans (if_neg (fun q => hatt1 ((Mur.Att.eq_iff x y).1 q)))).symm), kk9⟩
theorem half_any (k : List UInt8) (i : Nat) (hk : k.length = 32) (hi : i < 64) (w : World) : Calls Tryd.prog 65 #[.agg (b8s k).toArray, .int .i64 ((i : Nat) : Int)] w fun e w' => e = .returned (.int .u8 (((Mur.nib k i).toNat : Nat) : Int)) ∧ Wk.Chg [] w w' := by
 refine calls_of_wp Tryd.func65 rfl ?_
 refine wp_seq (Wk.reg ?_)
 refine Wk.rEx 0 (some 2) _ rfl rfl (by kernel_rfl) (Wk.new_ex (.pointer (some ⟨w.heap.size, 0, none⟩)) ((b8s k).toArray) 30 (by kernel_rfl)) ?_
 rintro _ W1 ⟨rfl, hb1, ch1, sz1⟩
 have zz1 := ch1.size
 refine Wk.rP 1 4 (.int .u8 0) rfl rfl ?_
 refine Wk.rEnd 2 rfl (Wk.nxt (wp_seq (wp_seq (Wk.reg ?_))))
 refine Wk.rP 0 5 (.int .i64 ((i : Nat) : Int)) rfl rfl ?_
 refine Wk.rQ 1 6 (.int .i64 ((i % 2 : Nat) : Int)) rfl rfl (Wk.rem_nat 3 3 (.tmp 5) (.const (.int .i64 2)) rfl i 2 (by kernel_rfl) (by kernel_rfl) (by omega)) ?_
 by_cases hx1 : ((i % 2 : Nat) : Int) = (0 : Int)
 ·refine Wk.rQ 2 7 (.bool true) rfl rfl (Wk.boolT (b := (((i % 2 : Nat) : Int) == (0 : Int))) (beq_iff_eq.2 (by first | exact hx1 | omega)) (by kernel_rfl)) ?_
  refine Wk.rEnd 3 rfl (Wk.nxt (wp_cond_true (by kernel_rfl) (wp_seq (Wk.reg ?_))))
  refine Wk.rP 0 8 (.int .i64 ((i : Nat) : Int)) rfl rfl ?_
  refine Wk.rQ 1 9 (.int .i64 ((i / 2 : Nat) : Int)) rfl rfl (Mur.quo_nat 3 3 (.tmp 8) (.const (.int .i64 2)) rfl i 2 (by kernel_rfl) (by kernel_rfl) (by omega) (by omega)) ?_
  refine Wk.rQ 2 10 (.pointer (some ⟨w.heap.size, 0 + (i / 2) * 1, none⟩)) rfl rfl (Wk.index_arr 30 5 (.tmp 2) (.tmp 9) rfl 32 Tryd.underlying30 1 (by kernel_rfl) w.heap.size 0 (i / 2) .i64 (by kernel_rfl) (by kernel_rfl) (by omega)) ?_
  refine Wk.rQ 3 11 (.int .u8 (((k.getD (i / 2) 0).toNat : Nat) : Int)) rfl rfl (Wk.load1 5 (.tmp 10) rfl (by kernel_rfl) ⟨w.heap.size, 0 + (i / 2) * 1, none⟩ (by kernel_rfl) (.int .u8 (((k.getD (i / 2) 0).toNat : Nat) : Int)) (Mur.blk_cell k hb1 (i / 2) (by rw [hk]; omega))) ?_
  refine Wk.rQ 4 12 (.int .u8 ((((k.getD (i / 2) 0) >>> 4).toNat : Nat) : Int)) rfl rfl (Mur.shr8_4 5 109 (.tmp 11) (.const (.int .u64 4)) rfl (k.getD (i / 2) 0) (by kernel_rfl) (by kernel_rfl)) ?_
  refine Wk.rP 5 4 (.int .u8 ((((k.getD (i / 2) 0) >>> 4).toNat : Nat) : Int)) rfl rfl ?_
  refine Wk.rEnd 6 rfl (Wk.nxt (wp_ret (Wk.thR ?_)))
  have kk1 : Wk.Chg [] w W1 := Wk.Chg.step ((Wk.Chg.refl _).more (by simp)) ch1 trivial
  refine Wk.ret (.int .u8 ((((k.getD (i / 2) 0) >>> 4).toNat : Nat) : Int)) rfl (by kernel_rfl) ?_
  exact ⟨by unfold Mur.nib; rw [if_pos (by omega)], kk1⟩
 refine Wk.rQ 2 7 (.bool false) rfl rfl (Wk.boolF (b := (((i % 2 : Nat) : Int) == (0 : Int))) (beq_eq_false_iff_ne.2 (by first | exact hx1 | omega)) (by kernel_rfl)) ?_
 refine Wk.rEnd 3 rfl (Wk.nxt (wp_cond_false (by kernel_rfl) (wp_skip (Wk.nxt (wp_seq (Wk.reg ?_))))))
 refine Wk.rP 0 13 (.int .i64 ((i : Nat) : Int)) rfl rfl ?_
 refine Wk.rQ 1 14 (.int .i64 ((i / 2 : Nat) : Int)) rfl rfl (Mur.quo_nat 3 3 (.tmp 13) (.const (.int .i64 2)) rfl i 2 (by kernel_rfl) (by kernel_rfl) (by omega) (by omega)) ?_
 refine Wk.rQ 2 15 (.pointer (some ⟨w.heap.size, 0 + (i / 2) * 1, none⟩)) rfl rfl (Wk.index_arr 30 5 (.tmp 2) (.tmp 14) rfl 32 Tryd.underlying30 1 (by kernel_rfl) w.heap.size 0 (i / 2) .i64 (by kernel_rfl) (by kernel_rfl) (by omega)) ?_
 refine Wk.rQ 3 16 (.int .u8 (((k.getD (i / 2) 0).toNat : Nat) : Int)) rfl rfl (Wk.load1 5 (.tmp 15) rfl (by kernel_rfl) ⟨w.heap.size, 0 + (i / 2) * 1, none⟩ (by kernel_rfl) (.int .u8 (((k.getD (i / 2) 0).toNat : Nat) : Int)) (Mur.blk_cell k hb1 (i / 2) (by rw [hk]; omega))) ?_
 refine Wk.rQ 4 17 (.int .u8 ((((k.getD (i / 2) 0) &&& 15).toNat : Nat) : Int)) rfl rfl (Mur.and8_15 5 5 (.tmp 16) (.const (.int .u8 15)) rfl (k.getD (i / 2) 0) (by kernel_rfl) (by kernel_rfl)) ?_
 refine Wk.rP 5 4 (.int .u8 ((((k.getD (i / 2) 0) &&& 15).toNat : Nat) : Int)) rfl rfl ?_
 refine Wk.rEnd 6 rfl (Wk.nxt (wp_ret ?_))
 have kk2 : Wk.Chg [] w W1 := Wk.Chg.step ((Wk.Chg.refl _).more (by simp)) ch1 trivial
 refine Wk.ret (.int .u8 ((((k.getD (i / 2) 0) &&& 15).toNat : Nat) : Int)) rfl (by kernel_rfl) ?_
 exact ⟨by unfold Mur.nib; rw [if_neg (by omega)], kk2⟩
theorem over_any (x : UInt8) (w : World) : Calls Tryd.prog 46 #[.int .u8 ((x.toNat : Nat) : Int)] w fun e w' => e = .returned (.bool (decide (15 < x))) ∧ w = w' := by
 refine calls_of_wp Tryd.func46 rfl ?_
 refine wp_seq (Wk.reg ?_)
 refine Wk.rP 0 2 (.bool false) rfl rfl ?_
 refine Wk.rEnd 1 rfl (Wk.nxt (wp_seq (Wk.reg ?_)))
 refine Wk.rP 0 3 (.int .u8 ((x.toNat : Nat) : Int)) rfl rfl ?_
 by_cases hx1 : ((x.toNat : Nat) : Int) > (15 : Int)
 ·refine Wk.rQ 1 4 (.bool true) rfl rfl (Wk.boolT (b := decide (((x.toNat : Nat) : Int) > (15 : Int))) (decide_eq_true (by first | exact hx1 | omega)) (by kernel_rfl)) ?_
  refine Wk.rP 2 2 (.bool true) rfl rfl ?_
  refine Wk.rEnd 3 rfl (Wk.nxt (wp_ret ?_))
  refine Wk.ret (.bool true) rfl (by kernel_rfl) ?_
  exact ⟨by rw [decide_eq_true (show 15 < x by rw [UInt8.lt_iff_toNat_lt]; show 15 < x.toNat; omega)], rfl⟩
 refine Wk.rQ 1 4 (.bool false) rfl rfl (Wk.boolF (b := decide (((x.toNat : Nat) : Int) > (15 : Int))) (decide_eq_false (by first | exact hx1 | omega)) (by kernel_rfl)) ?_
 refine Wk.rP 2 2 (.bool false) rfl rfl ?_
 refine Wk.rEnd 3 rfl (Wk.nxt (wp_ret ?_))
 refine Wk.ret (.bool false) rfl (by kernel_rfl) ?_
 exact ⟨by rw [decide_eq_false (show ¬ 15 < x by rw [UInt8.lt_iff_toNat_lt]; show ¬ 15 < x.toNat; omega)], rfl⟩
theorem index15_any (l : List UInt8) (A : Option Addr) (n c : Nat) (w : World) (hb : Byt w A n l) (hn : n ≤ 9223372036854775807) : Calls Tryd.prog 68 #[.slice A n c, .func (.func 46) #[] #[]] w fun e w' => ∃ r : Int, e = .returned (.int .i64 r) ∧ (0 ≤ r ↔ (l.all fun x => decide (x ≤ 15)) = false) ∧ w = w' := by
 have HB := Go.Lib.hid hb
 clear hb
 refine calls_of_wp Tryd.func68 rfl ?_
 refine wp_seq (Wk.reg ?_)
 refine Wk.rP 0 4 (.int .i64 0) rfl rfl ?_
 refine Wk.rEnd 1 rfl (Wk.nxt (wp_seq (wp_seq (Wk.reg ?_))))
 refine Wk.rP 0 6 (.slice A n c) rfl rfl ?_
 refine Wk.rP 1 7 (.int .i64 ((n : Nat) : Int)) rfl rfl ?_
 refine Wk.rP 2 8 (.int .i64 0) rfl rfl ?_
 refine Wk.rEnd 3 rfl (Wk.nxt (wp_block ?_))
 refine Wk.loop (fun m_ a wr => ∃ (i : Nat), m_ = n - i ∧ a = Idx15_F1 a.tmps (.slice A n c) (.func (.func 46) #[] #[]) (.int .i64 ((n : Nat) : Int)) (.int .i64 ((i : Nat) : Int)) ∧ i ≤ n ∧ (∀ j, j < i → (l.getD j 0) ≤ 15) ∧ wr = w) (n - 0) ?_ ?_
 ·refine ⟨0, rfl, by kernel_rfl, Nat.zero_le _, (fun j h => by omega), rfl⟩
 rintro mm1 aa1 W1 ⟨i, hmm1, hF1, hi, hall, hw⟩
 generalize aa1.tmps = bb1 at hF1
 subst hF1
 subst hw
 by_cases hlt : i < n
 ·obtain ⟨q, off, rfl, hcc⟩ := HB.out.2 (by omega)
  refine wp_seq (Wk.reg ?_)
  refine Wk.rQ 0 9 (.bool true) rfl rfl (Wk.boolT (b := decide (((i : Nat) : Int) < ((n : Nat) : Int))) (decide_eq_true (by omega)) (by kernel_rfl)) ?_
  refine Wk.rEnd 1 rfl (Wk.nxt (wp_seq (wp_cond_true (by kernel_rfl) (wp_skip (Wk.nxt (wp_seq (wp_block (wp_seq (Wk.reg ?_)))))))))
  refine Wk.rP 0 10 (.int .i64 ((i : Nat) : Int)) rfl rfl ?_
  refine Wk.rP 1 5 (.int .i64 ((i : Nat) : Int)) rfl rfl ?_
  refine Wk.rEnd 2 rfl (Wk.nxt (wp_seq (Wk.reg ?_)))
  refine Wk.rP 0 11 (.func (.func 46) #[] #[]) rfl rfl ?_
  refine Wk.rP 1 12 (.slice (some ⟨q, off, none⟩) n c) rfl rfl ?_
  refine Wk.rP 2 13 (.int .i64 ((i : Nat) : Int)) rfl rfl ?_
  refine Wk.rQ 3 14 (.pointer (some ⟨q, off + i * 1, none⟩)) rfl rfl (Wk.index_sl 38 5 (.tmp 12) (.tmp 13) rfl Tryd.underlying38 1 (by kernel_rfl) q off n c i .i64 (by kernel_rfl) (by kernel_rfl) (by omega)) ?_
  refine Wk.rQ 4 15 (.int .u8 (((l.getD i 0).toNat : Nat) : Int)) rfl rfl (Wk.load1 5 (.tmp 14) rfl (by kernel_rfl) ⟨q, off + i * 1, none⟩ (by kernel_rfl) (.int .u8 (((l.getD i 0).toNat : Nat) : Int)) (Mur.byt_cell HB.out i (by omega))) ?_
  refine Wk.rCallV 5 (some 16) (.tmp 11) 46 #[] [.tmp 15] #[5] [.int .u8 (((l.getD i 0).toNat : Nat) : Int)] rfl rfl (by kernel_rfl) rfl (by kernel_rfl) (by kernel_rfl) (by kernel_rfl) ?_
  refine (over_any (l.getD i 0) W1).mono ?_
  by_cases hov1 : 15 < (l.getD i 0)
  ·rw [decide_eq_true hov1]
   rintro _ _ ⟨rfl, rfl⟩
   refine ⟨_, rfl, ?_⟩
   refine Wk.rEnd 6 rfl (Wk.nxt (wp_cond_true (by kernel_rfl) (wp_seq (Wk.reg ?_))))
   refine Wk.rP 0 17 (.int .i64 ((i : Nat) : Int)) rfl rfl ?_
   refine Wk.rP 1 4 (.int .i64 ((i : Nat) : Int)) rfl rfl ?_
   refine Wk.rEnd 2 rfl (Wk.nxt (wp_ret (Wk.inR (Wk.thR (Wk.thR (Wk.inR (Wk.thR ?_)))))))
   refine Wk.ret (.int .i64 ((i : Nat) : Int)) rfl (by kernel_rfl) ?_
   exact ⟨_, rfl, by rw [show (l.all fun x => decide (x ≤ 15)) = false from Mur.some15 HB.out.1 hlt hov1]; simp, rfl⟩
  rw [decide_eq_false hov1]
  rintro _ _ ⟨rfl, rfl⟩
  refine ⟨_, rfl, ?_⟩
  refine Wk.rEnd 6 rfl (Wk.nxt (wp_cond_false (by kernel_rfl) (wp_skip (Wk.inN (Wk.nxt (Wk.reg ?_))))))
  refine Wk.rQ 0 18 (.int .i64 ((i + 1 : Nat) : Int)) rfl rfl (Wk.int64 (n := ((i : Nat) : Int) + 1) (z := ((i + 1 : Nat) : Int)) (by omega) (by omega) (by omega) (by kernel_rfl)) ?_
  refine Wk.rP 1 8 (.int .i64 ((i + 1 : Nat) : Int)) rfl rfl ?_
  refine Wk.rEnd 2 rfl (Wk.nxt ?_)
  refine ⟨_, ?_, i + 1, rfl, by kernel_rfl, (by omega), (fun j hj => by rcases Nat.lt_or_ge j i with h1 | h1 <;> first | exact hall j h1 | (obtain rfl : j = i := (by omega); exact UInt8.not_lt.1 hov1)), rfl⟩
  omega
 refine wp_seq (Wk.reg ?_)
 refine Wk.rQ 0 9 (.bool false) rfl rfl (Wk.boolF (b := decide (((i : Nat) : Int) < ((n : Nat) : Int))) (decide_eq_false (by omega)) (by kernel_rfl)) ?_
 refine Wk.rEnd 1 rfl (Wk.nxt (wp_seq (wp_cond_false (by kernel_rfl) (wp_exit (Wk.thX (Wk.thX (Wk.inX (Wk.nxt (wp_seq (Wk.reg ?_))))))))))
 refine Wk.rP 0 4 (.int .i64 (-1)) rfl rfl ?_
 refine Wk.rEnd 1 rfl (Wk.nxt (wp_ret ?_))
 refine Wk.ret (.int .i64 (-1)) rfl (by kernel_rfl) ?_
 exact ⟨_, rfl, by rw [show (l.all fun x => decide (x ≤ 15)) = true from Mur.all15 HB.out.1 (fun j hj => hall j (by omega))]; simp, rfl⟩
theorem contains15_any (l : List UInt8) (A : Option Addr) (n c : Nat) (w : World) (hb : Byt w A n l) (hn : n ≤ 9223372036854775807) : Calls Tryd.prog 45 #[.slice A n c, .func (.func 46) #[] #[]] w fun e w' => e = .returned (.bool (!(l.all fun x => decide (x ≤ 15)))) ∧ w = w' := by
 refine calls_of_wp Tryd.func45 rfl ?_
 refine wp_seq (Wk.reg ?_)
 refine Wk.rP 0 4 (.bool false) rfl rfl ?_
 refine Wk.rEnd 1 rfl (Wk.nxt (wp_seq (Wk.reg ?_)))
 refine Wk.rP 0 5 (.slice A n c) rfl rfl ?_
 refine Wk.rP 1 6 (.func (.func 46) #[] #[]) rfl rfl ?_
 refine Wk.rC 2 7 68 [.tmp 5, .tmp 6] #[38, 90] [.slice A n c, .func (.func 46) #[] #[]] rfl rfl rfl ?_
 refine (index15_any l A n c w hb (by omega)).mono ?_
 rintro _ _ ⟨r_1, rfl, hr1, rfl⟩
 refine ⟨_, rfl, ?_⟩
 by_cases hx1 : r_1 ≥ (0 : Int)
 ·refine Wk.rQ 3 8 (.bool true) rfl rfl (Wk.boolT (b := decide (r_1 ≥ (0 : Int))) (decide_eq_true (by first | exact hx1 | omega)) (by kernel_rfl)) ?_
  refine Wk.rP 4 4 (.bool true) rfl rfl ?_
  refine Wk.rEnd 5 rfl (Wk.nxt (wp_ret ?_))
  refine Wk.ret (.bool true) rfl (by kernel_rfl) ?_
  exact ⟨by rw [show (l.all fun x => decide (x ≤ 15)) = false from by first | exact hr1.1 (by omega) | (cases hq : (l.all fun x => decide (x ≤ 15)) <;> first | rfl | exact absurd (hr1.2 hq) (by omega))]; rfl, rfl⟩
 refine Wk.rQ 3 8 (.bool false) rfl rfl (Wk.boolF (b := decide (r_1 ≥ (0 : Int))) (decide_eq_false (by first | exact hx1 | omega)) (by kernel_rfl)) ?_
 refine Wk.rP 4 4 (.bool false) rfl rfl ?_
 refine Wk.rEnd 5 rfl (Wk.nxt (wp_ret ?_))
 refine Wk.ret (.bool false) rfl (by kernel_rfl) ?_
 exact ⟨by rw [show (l.all fun x => decide (x ≤ 15)) = true from by first | exact hr1.1 (by omega) | (cases hq : (l.all fun x => decide (x ≤ 15)) <;> first | rfl | exact absurd (hr1.2 hq) (by omega))]; rfl, rfl⟩
theorem IsPrefix_any (l : List UInt8) (A : Option Addr) (n c : Nat) (w : World) (hb : Byt w A n l) (hn : n ≤ 9223372036854775807) : Calls Tryd.prog 19 #[.slice A n c] w fun e w' => e = .returned (.bool (Mur.isPre l)) ∧ w = w' := by
 refine calls_of_wp Tryd.func19 rfl ?_
 refine wp_seq (Wk.reg ?_)
 refine Wk.rP 0 2 (.bool false) rfl rfl ?_
 refine Wk.rEnd 1 rfl (Wk.nxt (wp_seq (Wk.reg ?_)))
 refine Wk.rP 0 3 (.slice A n c) rfl rfl ?_
 refine Wk.rP 1 4 (.int .i64 ((n : Nat) : Int)) rfl rfl ?_
 by_cases hx1 : ((n : Nat) : Int) ≤ (8 : Int)
 ·refine Wk.rQ 2 5 (.bool true) rfl rfl (Wk.boolT (b := decide (((n : Nat) : Int) ≤ (8 : Int))) (decide_eq_true (by first | exact hx1 | omega)) (by kernel_rfl)) ?_
  refine Wk.rP 3 6 (.bool true) rfl rfl ?_
  refine Wk.rP 4 7 (.slice A n c) rfl rfl ?_
  refine Wk.rC 5 8 45 [.tmp 7, .func 46] #[38, 90] [.slice A n c, .func (.func 46) #[] #[]] rfl rfl rfl ?_
  refine (contains15_any l A n c w hb (by omega)).mono ?_
  cases hal1 : (l.all fun x => decide (x ≤ 15))
  ·rintro _ _ ⟨rfl, rfl⟩
   refine ⟨_, rfl, ?_⟩
   refine Wk.rP 6 9 (.bool false) rfl rfl ?_
   refine Wk.rP 7 10 (.bool false) rfl rfl ?_
   refine Wk.rP 8 2 (.bool false) rfl rfl ?_
   refine Wk.rEnd 9 rfl (Wk.nxt (wp_ret ?_))
   refine Wk.ret (.bool false) rfl (by kernel_rfl) ?_
   exact ⟨by rw [show Mur.isPre l = false from by unfold Mur.isPre; rw [hal1]; rfl], rfl⟩
  rintro _ _ ⟨rfl, rfl⟩
  refine ⟨_, rfl, ?_⟩
  refine Wk.rP 6 9 (.bool true) rfl rfl ?_
  refine Wk.rP 7 10 (.bool true) rfl rfl ?_
  refine Wk.rP 8 2 (.bool true) rfl rfl ?_
  refine Wk.rEnd 9 rfl (Wk.nxt (wp_ret ?_))
  refine Wk.ret (.bool true) rfl (by kernel_rfl) ?_
  exact ⟨by rw [show Mur.isPre l = true from by unfold Mur.isPre; rw [hal1]; have := hb.1; simp; omega], rfl⟩
 refine Wk.rQ 2 5 (.bool false) rfl rfl (Wk.boolF (b := decide (((n : Nat) : Int) ≤ (8 : Int))) (decide_eq_false (by first | exact hx1 | omega)) (by kernel_rfl)) ?_
 refine Wk.rP 3 6 (.bool false) rfl rfl ?_
 refine Wk.rPass 4 (some 7) rfl rfl (by kernel_rfl) ?_
 refine Wk.rPass 5 (some 8) rfl rfl (by kernel_rfl) ?_
 refine Wk.rPass 6 (some 9) rfl rfl (by kernel_rfl) ?_
 refine Wk.rP 7 10 (.bool false) rfl rfl ?_
 refine Wk.rP 8 2 (.bool false) rfl rfl ?_
 refine Wk.rEnd 9 rfl (Wk.nxt (wp_ret ?_))
 refine Wk.ret (.bool false) rfl (by kernel_rfl) ?_
 exact ⟨by rw [show Mur.isPre l = false from by unfold Mur.isPre; have := hb.1; simp; omega], rfl⟩
end Go.Proofs.YtfhneademopciaaDoor
namespace Go.Proofs.YtfhneademopciaaDoor
open Go.RowKit
open Mur (b8s Byt Own8 Seg Segs flat cutA attC Att SlA OwnA rowA)
set_option maxRecDepth 100000
set_option maxHeartbeats 4000000
def Srch_F1 (b : Array Value) (u0 : Value) (u2 : Value) (u4 : Value) (u8 : Value) (u9 : Value) (u10 : Value) : Act := ⟨#[u0, b.getD 1 undef, u2, b.getD 3 undef, u4, b.getD 5 undef, b.getD 6 undef, b.getD 7 undef, u8, u9, u10, b.getD 11 undef, b.getD 12 undef, b.getD 13 undef, b.getD 14 undef, b.getD 15 undef, b.getD 16 undef, b.getD 17 undef, b.getD 18 undef, b.getD 19 undef, b.getD 20 undef, b.getD 21 undef, b.getD 22 undef, b.getD 23 undef, b.getD 24 undef, b.getD 25 undef, b.getD 26 undef, b.getD 27 undef, b.getD 28 undef, b.getD 29 undef, b.getD 30 undef, b.getD 31 undef, b.getD 32 undef, b.getD 33 undef, b.getD 34 undef, b.getD 35 undef, b.getD 36 undef, b.getD 37 undef, b.getD 38 undef, b.getD 39 undef, b.getD 40 undef, b.getD 41 undef, b.getD 42 undef, b.getD 43 undef, b.getD 44 undef, b.getD 45 undef, b.getD 46 undef, b.getD 47 undef, b.getD 48 undef], []⟩
theorem Search_any (L : List Att) (hs : Mur.Sorted L) (A : Option Addr) (n c : Nat) (x : Att) (w : World) (hb : SlA w A n L) (hn : n ≤ 100000) : Calls Tryd.prog 39 #[.slice A n c, .agg (attC x.k x.r x.n x.t).toArray, .func (.func 40) #[] #[]] w fun e w' => e = .returned (.tuple #[.int .i64 ((Mur.pos x L : Nat) : Int), .bool (decide (x ∈ L))]) ∧ Wk.Chg [] w w' := by
 refine calls_of_wp Tryd.func39 rfl ?_
 refine wp_seq (Wk.reg ?_)
 refine Wk.rEx 0 (some 4) _ rfl rfl (by kernel_rfl) (Wk.new_ex (.pointer (some ⟨w.heap.size, 0, none⟩)) ((Mur.attC x.k x.r x.n x.t).toArray) 32 (by kernel_rfl)) ?_
 rintro _ W1 ⟨rfl, hb1, ch1, sz1⟩
 have zz1 := ch1.size
 refine Wk.rP 1 6 (.int .i64 0) rfl rfl ?_
 refine Wk.rP 2 7 (.bool false) rfl rfl ?_
 refine Wk.rEnd 3 rfl (Wk.nxt (wp_seq (Wk.reg ?_)))
 refine Wk.rP 0 12 (.slice A n c) rfl rfl ?_
 refine Wk.rP 1 13 (.int .i64 ((n : Nat) : Int)) rfl rfl ?_
 refine Wk.rP 2 8 (.int .i64 ((n : Nat) : Int)) rfl rfl ?_
 refine Wk.rEnd 3 rfl (Wk.nxt (wp_seq (Wk.reg ?_)))
 refine Wk.rP 0 14 (.int .i64 ((n : Nat) : Int)) rfl rfl ?_
 refine Wk.rP 1 9 (.int .i64 0) rfl rfl ?_
 refine Wk.rP 2 10 (.int .i64 ((n : Nat) : Int)) rfl rfl ?_
 refine Wk.rEnd 3 rfl (Wk.nxt (wp_seq (wp_block ?_)))
 refine Wk.loop (fun m_ a wr => ∃ (i : Nat) (j : Nat), m_ = j - i ∧ a = Srch_F1 a.tmps (.slice A n c) (.func (.func 40) #[] #[]) (.pointer (some ⟨w.heap.size, 0, none⟩)) (.int .i64 ((n : Nat) : Int)) (.int .i64 ((i : Nat) : Int)) (.int .i64 ((j : Nat) : Int)) ∧ (i ≤ Mur.pos x L ∧ Mur.pos x L ≤ j ∧ j ≤ n) ∧ wr.heap[w.heap.size]? = some (.cells (Mur.attC x.k x.r x.n x.t).toArray 32 (0, 0)) ∧ Wk.Chg [] w wr) (n - 0) ?_ ?_
 ·have kk1 : Wk.Chg [] w W1 := Wk.Chg.step ((Wk.Chg.refl _).more (by simp)) ch1 trivial
  refine ⟨0, n, rfl, by kernel_rfl, ⟨by omega, by have := Mur.pos_le x L; have := hb.len; omega, Nat.le_refl _⟩, hb1, kk1⟩
 rintro mm1 aa1 W2 ⟨i, j, hmm1, hF1, hij, hbx, HC⟩
 generalize aa1.tmps = bb1 at hF1
 subst hF1
 have hzC := HC.size
 have hxl := (Array.getElem?_eq_some_iff.1 hbx).1
 by_cases hlt : i < j
 ·obtain ⟨g, off, rfl, _⟩ := hb.ex (by omega)
  obtain ⟨y, hy⟩ : ∃ y, L[(i + j) / 2]? = some y := ⟨_, List.getElem?_eq_getElem (by have := hb.len; omega)⟩
  by_cases hyx : y.lt x
  ·have hpo : (i + j) / 2 < Mur.pos x L := (Mur.pos_lt hs hy).1 hyx
   refine wp_seq (wp_seq (Wk.reg ?_))
   refine Wk.rP 0 15 (.int .i64 ((i : Nat) : Int)) rfl rfl ?_
   refine Wk.rP 1 16 (.int .i64 ((j : Nat) : Int)) rfl rfl ?_
   refine Wk.rQ 2 17 (.bool true) rfl rfl (Wk.boolT (b := decide (((i : Nat) : Int) < ((j : Nat) : Int))) (decide_eq_true (by omega)) (by kernel_rfl)) ?_
   refine Wk.rEnd 3 rfl (Wk.nxt (wp_cond_true (by kernel_rfl) (wp_skip (Wk.nxt (wp_block (wp_seq (Wk.reg ?_)))))))
   refine Wk.rP 0 18 (.int .i64 ((i : Nat) : Int)) rfl rfl ?_
   refine Wk.rP 1 19 (.int .i64 ((j : Nat) : Int)) rfl rfl ?_
   refine Wk.rQ 2 20 (.int .i64 ((i + j : Nat) : Int)) rfl rfl (Wk.int64 (n := ((i : Nat) : Int) + ((j : Nat) : Int)) (z := ((i + j : Nat) : Int)) (by omega) (by omega) (by omega) (by kernel_rfl)) ?_
   refine Wk.rQ 3 21 (.int .u64 ((i + j : Nat) : Int)) rfl rfl (Mur.conv_int 3 109 (.tmp 20) rfl (by kernel_rfl) .u64 Tryd.underlying109 .i64 ((i + j : Nat) : Int) (by kernel_rfl) (Mur.u64_nat (by omega))) ?_
   refine Wk.rQ 4 22 (.int .u64 (((i + j) / 2 : Nat) : Int)) rfl rfl (Mur.shr64 109 109 (.tmp 21) (.const (.int .u64 1)) rfl (i + j) 1 .u64 (by kernel_rfl) (by kernel_rfl) (by omega) 2 rfl) ?_
   refine Wk.rQ 5 23 (.int .i64 (((i + j) / 2 : Nat) : Int)) rfl rfl (Mur.conv_int 109 3 (.tmp 22) rfl (by kernel_rfl) .i64 Tryd.underlying3 .u64 (((i + j) / 2 : Nat) : Int) (by kernel_rfl) (Mur.i64_nat (by omega))) ?_
   refine Wk.rP 6 11 (.int .i64 (((i + j) / 2 : Nat) : Int)) rfl rfl ?_
   refine Wk.rEnd 7 rfl (Wk.nxt (wp_seq ?_))
   refine Wk.dReg ([]) (by kernel_rfl) ?_
   intro W3 ch2 sz2
   have zz2 := ch2.size
   have sS1 : Wk.Chg ([]) W3 W3 := (Wk.Chg.refl _).more (by simp)
   refine Wk.dV 0 24 (.func (.func 40) #[] #[]) rfl rfl (fun _ _ => by kernel_rfl) sS1 ?_
   refine Wk.dV 1 25 (.slice (some ⟨g, off, none⟩) n c) rfl rfl (fun _ _ => by kernel_rfl) sS1 ?_
   refine Wk.dV 2 26 (.int .i64 (((i + j) / 2 : Nat) : Int)) rfl rfl (fun _ _ => by kernel_rfl) sS1 ?_
   refine Wk.dV 3 27 (.pointer (some ⟨g, off + ((i + j) / 2) * 97, none⟩)) rfl rfl (fun w' hw' => (Wk.index_sl 22 32 (.tmp 25) (.tmp 26) rfl Tryd.underlying22 97 (by kernel_rfl) g off n c ((i + j) / 2) .i64 (by kernel_rfl) (by kernel_rfl) (by omega))) sS1 ?_
   have kk2 := Wk.Chg.step HC ch2 trivial
   refine Wk.dV 4 28 (.agg ((Mur.attC y.k y.r y.n y.t).toArray)) rfl rfl (fun w' hw' => (Wk.loadR 32 (.tmp 27) rfl _ Tryd.underlying32 rfl g (off + ((i + j) / 2) * 97) (by kernel_rfl) (Mur.attC y.k y.r y.n y.t) (by rw [Mur.attC_length y.hk y.hr y.ht]; kernel_rfl) ((Mur.SlA.chg (Mur.SlA.chg hb kk2 (fun g off e hl => trivial)) hw' (fun g off e hl => trivial)).elem hy))) sS1 ?_
   refine Wk.dV 5 29 (.agg ((Mur.attC x.k x.r x.n x.t).toArray)) rfl rfl (fun w' hw' => (Mur.loadArr 32 (.tmp 4) rfl _ Tryd.underlying32 rfl w.heap.size (by kernel_rfl) (Mur.attC x.k x.r x.n x.t).toArray 97 (Mur.attC_size x.hk x.hr x.ht) (by kernel_rfl) 32 (0, 0) (Wk.Chg.hp hw' (Wk.Chg.hp ch2 hbx trivial) trivial))) sS1 ?_
   refine Wk.dOp 6 (by kernel_rfl) ?_
   refine Wk.oCallV (some 30) (.tmp 24) 40 #[] [.tmp 28, .tmp 29] #[32, 32] [.agg ((Mur.attC y.k y.r y.n y.t).toArray), .agg ((Mur.attC x.k x.r x.n x.t).toArray)] rfl rfl (by kernel_rfl) rfl (by kernel_rfl) (by kernel_rfl) (by kernel_rfl) ?_
   refine (compare_any y x W3).mono ?_
   rintro _ W4 ⟨rfl, ch3⟩
   have zz3 := ch3.size
   have sS2 := Wk.Chg.step sS1 ch3 trivial
   refine ⟨_, rfl, sS2, ?_⟩
   refine Wk.dV 7 31 (.bool true) rfl rfl (fun w' hw' => (Wk.boolT (b := decide ((Mur.cmpA y x) < (0 : Int))) (decide_eq_true ((Mur.cmpA_neg y x).2 hyx)) (by kernel_rfl))) sS2 ?_
   refine Wk.dEnd (by kernel_rfl) (Wk.nxt (wp_cond_true (by kernel_rfl) (Wk.reg ?_)))
   refine Wk.rP 0 32 (.int .i64 (((i + j) / 2 : Nat) : Int)) rfl rfl ?_
   refine Wk.rQ 1 33 (.int .i64 (((i + j) / 2 + 1 : Nat) : Int)) rfl rfl (Wk.int64 (n := (((i + j) / 2 : Nat) : Int) + 1) (z := (((i + j) / 2 + 1 : Nat) : Int)) (by omega) (by omega) (by omega) (by kernel_rfl)) ?_
   refine Wk.rP 2 9 (.int .i64 (((i + j) / 2 + 1 : Nat) : Int)) rfl rfl ?_
   refine Wk.rEnd 3 rfl (Wk.inN (Wk.nxt ?_))
   have kk3 := Wk.Chg.step kk2 ch3 trivial
   refine ⟨_, ?_, (i + j) / 2 + 1, j, rfl, by kernel_rfl, ⟨by omega, by omega, by omega⟩, (Wk.Chg.hp ch3 (Wk.Chg.hp ch2 hbx trivial) trivial), kk3⟩
   omega
  have hpo : ¬ ((i + j) / 2 < Mur.pos x L) := fun q => hyx ((Mur.pos_lt hs hy).2 q)
  refine wp_seq (wp_seq (Wk.reg ?_))
  refine Wk.rP 0 15 (.int .i64 ((i : Nat) : Int)) rfl rfl ?_
  refine Wk.rP 1 16 (.int .i64 ((j : Nat) : Int)) rfl rfl ?_
  refine Wk.rQ 2 17 (.bool true) rfl rfl (Wk.boolT (b := decide (((i : Nat) : Int) < ((j : Nat) : Int))) (decide_eq_true (by omega)) (by kernel_rfl)) ?_
  refine Wk.rEnd 3 rfl (Wk.nxt (wp_cond_true (by kernel_rfl) (wp_skip (Wk.nxt (wp_block (wp_seq (Wk.reg ?_)))))))
  refine Wk.rP 0 18 (.int .i64 ((i : Nat) : Int)) rfl rfl ?_
  refine Wk.rP 1 19 (.int .i64 ((j : Nat) : Int)) rfl rfl ?_
  refine Wk.rQ 2 20 (.int .i64 ((i + j : Nat) : Int)) rfl rfl (Wk.int64 (n := ((i : Nat) : Int) + ((j : Nat) : Int)) (z := ((i + j : Nat) : Int)) (by omega) (by omega) (by omega) (by kernel_rfl)) ?_
  refine Wk.rQ 3 21 (.int .u64 ((i + j : Nat) : Int)) rfl rfl (Mur.conv_int 3 109 (.tmp 20) rfl (by kernel_rfl) .u64 Tryd.underlying109 .i64 ((i + j : Nat) : Int) (by kernel_rfl) (Mur.u64_nat (by omega))) ?_
  refine Wk.rQ 4 22 (.int .u64 (((i + j) / 2 : Nat) : Int)) rfl rfl (Mur.shr64 109 109 (.tmp 21) (.const (.int .u64 1)) rfl (i + j) 1 .u64 (by kernel_rfl) (by kernel_rfl) (by omega) 2 rfl) ?_
  refine Wk.rQ 5 23 (.int .i64 (((i + j) / 2 : Nat) : Int)) rfl rfl (Mur.conv_int 109 3 (.tmp 22) rfl (by kernel_rfl) .i64 Tryd.underlying3 .u64 (((i + j) / 2 : Nat) : Int) (by kernel_rfl) (Mur.i64_nat (by omega))) ?_
  refine Wk.rP 6 11 (.int .i64 (((i + j) / 2 : Nat) : Int)) rfl rfl ?_
  refine Wk.rEnd 7 rfl (Wk.nxt (wp_seq ?_))
  refine Wk.dReg ([]) (by kernel_rfl) ?_
  intro W5 ch4 sz3
  have zz4 := ch4.size
  have sS3 : Wk.Chg ([]) W5 W5 := (Wk.Chg.refl _).more (by simp)
  refine Wk.dV 0 24 (.func (.func 40) #[] #[]) rfl rfl (fun _ _ => by kernel_rfl) sS3 ?_
  refine Wk.dV 1 25 (.slice (some ⟨g, off, none⟩) n c) rfl rfl (fun _ _ => by kernel_rfl) sS3 ?_
  refine Wk.dV 2 26 (.int .i64 (((i + j) / 2 : Nat) : Int)) rfl rfl (fun _ _ => by kernel_rfl) sS3 ?_
  refine Wk.dV 3 27 (.pointer (some ⟨g, off + ((i + j) / 2) * 97, none⟩)) rfl rfl (fun w' hw' => (Wk.index_sl 22 32 (.tmp 25) (.tmp 26) rfl Tryd.underlying22 97 (by kernel_rfl) g off n c ((i + j) / 2) .i64 (by kernel_rfl) (by kernel_rfl) (by omega))) sS3 ?_
  have kk4 := Wk.Chg.step HC ch4 trivial
  refine Wk.dV 4 28 (.agg ((Mur.attC y.k y.r y.n y.t).toArray)) rfl rfl (fun w' hw' => (Wk.loadR 32 (.tmp 27) rfl _ Tryd.underlying32 rfl g (off + ((i + j) / 2) * 97) (by kernel_rfl) (Mur.attC y.k y.r y.n y.t) (by rw [Mur.attC_length y.hk y.hr y.ht]; kernel_rfl) ((Mur.SlA.chg (Mur.SlA.chg hb kk4 (fun g off e hl => trivial)) hw' (fun g off e hl => trivial)).elem hy))) sS3 ?_
  refine Wk.dV 5 29 (.agg ((Mur.attC x.k x.r x.n x.t).toArray)) rfl rfl (fun w' hw' => (Mur.loadArr 32 (.tmp 4) rfl _ Tryd.underlying32 rfl w.heap.size (by kernel_rfl) (Mur.attC x.k x.r x.n x.t).toArray 97 (Mur.attC_size x.hk x.hr x.ht) (by kernel_rfl) 32 (0, 0) (Wk.Chg.hp hw' (Wk.Chg.hp ch4 hbx trivial) trivial))) sS3 ?_
  refine Wk.dOp 6 (by kernel_rfl) ?_
  refine Wk.oCallV (some 30) (.tmp 24) 40 #[] [.tmp 28, .tmp 29] #[32, 32] [.agg ((Mur.attC y.k y.r y.n y.t).toArray), .agg ((Mur.attC x.k x.r x.n x.t).toArray)] rfl rfl (by kernel_rfl) rfl (by kernel_rfl) (by kernel_rfl) (by kernel_rfl) ?_
  refine (compare_any y x W5).mono ?_
  rintro _ W6 ⟨rfl, ch5⟩
  have zz5 := ch5.size
  have sS4 := Wk.Chg.step sS3 ch5 trivial
  refine ⟨_, rfl, sS4, ?_⟩
  refine Wk.dV 7 31 (.bool false) rfl rfl (fun w' hw' => (Wk.boolF (b := decide ((Mur.cmpA y x) < (0 : Int))) (decide_eq_false (fun q => hyx ((Mur.cmpA_neg y x).1 q))) (by kernel_rfl))) sS4 ?_
  refine Wk.dEnd (by kernel_rfl) (Wk.nxt (wp_cond_false (by kernel_rfl) (Wk.reg ?_)))
  refine Wk.rP 0 34 (.int .i64 (((i + j) / 2 : Nat) : Int)) rfl rfl ?_
  refine Wk.rP 1 10 (.int .i64 (((i + j) / 2 : Nat) : Int)) rfl rfl ?_
  refine Wk.rEnd 2 rfl (Wk.inN (Wk.nxt ?_))
  have kk5 := Wk.Chg.step kk4 ch5 trivial
  refine ⟨_, ?_, i, (i + j) / 2, rfl, by kernel_rfl, ⟨by omega, by omega, by omega⟩, (Wk.Chg.hp ch5 (Wk.Chg.hp ch4 hbx trivial) trivial), kk5⟩
  omega
 have hip : Mur.pos x L = i := by omega
 by_cases hin : i < n
 ·obtain ⟨g, off, rfl, _⟩ := hb.ex (by omega)
  obtain ⟨y, hy⟩ : ∃ y, L[i]? = some y := ⟨_, List.getElem?_eq_getElem (by have := hb.len; omega)⟩
  by_cases hyx : y = x
  ·have hmem : (x ∈ L) := (Mur.pos_mem hs).2 (by rw [hip, hy, hyx])
   refine wp_seq (wp_seq (Wk.reg ?_))
   refine Wk.rP 0 15 (.int .i64 ((i : Nat) : Int)) rfl rfl ?_
   refine Wk.rP 1 16 (.int .i64 ((j : Nat) : Int)) rfl rfl ?_
   refine Wk.rQ 2 17 (.bool false) rfl rfl (Wk.boolF (b := decide (((i : Nat) : Int) < ((j : Nat) : Int))) (decide_eq_false (by omega)) (by kernel_rfl)) ?_
   refine Wk.rEnd 3 rfl (Wk.nxt (wp_cond_false (by kernel_rfl) (wp_exit (Wk.thX (Wk.thX (Wk.inX (Wk.nxt (wp_seq ?_))))))))
   refine Wk.dReg ([]) (by kernel_rfl) ?_
   intro W7 ch6 sz4
   have zz6 := ch6.size
   have sS5 : Wk.Chg ([]) W7 W7 := (Wk.Chg.refl _).more (by simp)
   refine Wk.dV 0 35 (.int .i64 ((i : Nat) : Int)) rfl rfl (fun _ _ => by kernel_rfl) sS5 ?_
   refine Wk.dV 1 36 (.int .i64 ((i : Nat) : Int)) rfl rfl (fun _ _ => by kernel_rfl) sS5 ?_
   refine Wk.dV 2 37 (.int .i64 ((n : Nat) : Int)) rfl rfl (fun _ _ => by kernel_rfl) sS5 ?_
   refine Wk.dV 3 38 (.bool true) rfl rfl (fun w' hw' => (Wk.boolT (b := decide (((i : Nat) : Int) < ((n : Nat) : Int))) (decide_eq_true (by omega)) (by kernel_rfl))) sS5 ?_
   refine Wk.dV 4 39 (.bool true) rfl rfl (fun _ _ => by kernel_rfl) sS5 ?_
   refine Wk.dV 5 40 (.func (.func 40) #[] #[]) rfl rfl (fun _ _ => by kernel_rfl) sS5 ?_
   refine Wk.dV 6 41 (.slice (some ⟨g, off, none⟩) n c) rfl rfl (fun _ _ => by kernel_rfl) sS5 ?_
   refine Wk.dV 7 42 (.int .i64 ((i : Nat) : Int)) rfl rfl (fun _ _ => by kernel_rfl) sS5 ?_
   refine Wk.dV 8 43 (.pointer (some ⟨g, off + i * 97, none⟩)) rfl rfl (fun w' hw' => (Wk.index_sl 22 32 (.tmp 41) (.tmp 42) rfl Tryd.underlying22 97 (by kernel_rfl) g off n c i .i64 (by kernel_rfl) (by kernel_rfl) (by omega))) sS5 ?_
   have kk6 := Wk.Chg.step HC ch6 trivial
   refine Wk.dV 9 44 (.agg ((Mur.attC y.k y.r y.n y.t).toArray)) rfl rfl (fun w' hw' => (Wk.loadR 32 (.tmp 43) rfl _ Tryd.underlying32 rfl g (off + i * 97) (by kernel_rfl) (Mur.attC y.k y.r y.n y.t) (by rw [Mur.attC_length y.hk y.hr y.ht]; kernel_rfl) ((Mur.SlA.chg (Mur.SlA.chg hb kk6 (fun g off e hl => trivial)) hw' (fun g off e hl => trivial)).elem hy))) sS5 ?_
   refine Wk.dV 10 45 (.agg ((Mur.attC x.k x.r x.n x.t).toArray)) rfl rfl (fun w' hw' => (Mur.loadArr 32 (.tmp 4) rfl _ Tryd.underlying32 rfl w.heap.size (by kernel_rfl) (Mur.attC x.k x.r x.n x.t).toArray 97 (Mur.attC_size x.hk x.hr x.ht) (by kernel_rfl) 32 (0, 0) (Wk.Chg.hp hw' (Wk.Chg.hp ch6 hbx trivial) trivial))) sS5 ?_
   refine Wk.dOp 11 (by kernel_rfl) ?_
   refine Wk.oCallV (some 46) (.tmp 40) 40 #[] [.tmp 44, .tmp 45] #[32, 32] [.agg ((Mur.attC y.k y.r y.n y.t).toArray), .agg ((Mur.attC x.k x.r x.n x.t).toArray)] rfl rfl (by kernel_rfl) rfl (by kernel_rfl) (by kernel_rfl) (by kernel_rfl) ?_
   refine (compare_any y x W7).mono ?_
   rintro _ W8 ⟨rfl, ch7⟩
   have zz7 := ch7.size
   have sS6 := Wk.Chg.step sS5 ch7 trivial
   refine ⟨_, rfl, sS6, ?_⟩
   refine Wk.dV 12 47 (.bool true) rfl rfl (fun w' hw' => (Wk.boolT (b := ((Mur.cmpA y x) == (0 : Int))) (beq_iff_eq.2 ((Mur.cmpA_zero y x).2 hyx)) (by kernel_rfl))) sS6 ?_
   refine Wk.dV 13 48 (.bool true) rfl rfl (fun _ _ => by kernel_rfl) sS6 ?_
   refine Wk.dV 14 6 (.int .i64 ((i : Nat) : Int)) rfl rfl (fun _ _ => by kernel_rfl) sS6 ?_
   refine Wk.dV 15 7 (.bool true) rfl rfl (fun _ _ => by kernel_rfl) sS6 ?_
   refine Wk.dEnd (by kernel_rfl) (Wk.nxt (wp_ret ?_))
   have kk7 := Wk.Chg.step kk6 ch7 trivial
   refine Wk.ret (.tuple #[.int .i64 ((i : Nat) : Int), .bool true]) rfl (by kernel_rfl) ?_
   exact ⟨by rw [hip, decide_eq_true hmem], kk7⟩
  have hmem : ¬ (x ∈ L) := fun q => hyx (by have h1 := (Mur.pos_mem hs).1 q; rw [hip, hy] at h1; exact Option.some.inj h1)
  refine wp_seq (wp_seq (Wk.reg ?_))
  refine Wk.rP 0 15 (.int .i64 ((i : Nat) : Int)) rfl rfl ?_
  refine Wk.rP 1 16 (.int .i64 ((j : Nat) : Int)) rfl rfl ?_
  refine Wk.rQ 2 17 (.bool false) rfl rfl (Wk.boolF (b := decide (((i : Nat) : Int) < ((j : Nat) : Int))) (decide_eq_false (by omega)) (by kernel_rfl)) ?_
  refine Wk.rEnd 3 rfl (Wk.nxt (wp_cond_false (by kernel_rfl) (wp_exit (Wk.thX (Wk.thX (Wk.inX (Wk.nxt (wp_seq ?_))))))))
  refine Wk.dReg ([]) (by kernel_rfl) ?_
  intro W10 ch8 sz5
  have zz8 := ch8.size
  have sS7 : Wk.Chg ([]) W10 W10 := (Wk.Chg.refl _).more (by simp)
  refine Wk.dV 0 35 (.int .i64 ((i : Nat) : Int)) rfl rfl (fun _ _ => by kernel_rfl) sS7 ?_
  refine Wk.dV 1 36 (.int .i64 ((i : Nat) : Int)) rfl rfl (fun _ _ => by kernel_rfl) sS7 ?_
  refine Wk.dV 2 37 (.int .i64 ((n : Nat) : Int)) rfl rfl (fun _ _ => by kernel_rfl) sS7 ?_
  refine Wk.dV 3 38 (.bool true) rfl rfl (fun w' hw' => (Wk.boolT (b := decide (((i : Nat) : Int) < ((n : Nat) : Int))) (decide_eq_true (by omega)) (by kernel_rfl))) sS7 ?_
  refine Wk.dV 4 39 (.bool true) rfl rfl (fun _ _ => by kernel_rfl) sS7 ?_
  refine Wk.dV 5 40 (.func (.func 40) #[] #[]) rfl rfl (fun _ _ => by kernel_rfl) sS7 ?_
  refine Wk.dV 6 41 (.slice (some ⟨g, off, none⟩) n c) rfl rfl (fun _ _ => by kernel_rfl) sS7 ?_
  refine Wk.dV 7 42 (.int .i64 ((i : Nat) : Int)) rfl rfl (fun _ _ => by kernel_rfl) sS7 ?_
  refine Wk.dV 8 43 (.pointer (some ⟨g, off + i * 97, none⟩)) rfl rfl (fun w' hw' => (Wk.index_sl 22 32 (.tmp 41) (.tmp 42) rfl Tryd.underlying22 97 (by kernel_rfl) g off n c i .i64 (by kernel_rfl) (by kernel_rfl) (by omega))) sS7 ?_
  have kk8 := Wk.Chg.step HC ch8 trivial
  refine Wk.dV 9 44 (.agg ((Mur.attC y.k y.r y.n y.t).toArray)) rfl rfl (fun w' hw' => (Wk.loadR 32 (.tmp 43) rfl _ Tryd.underlying32 rfl g (off + i * 97) (by kernel_rfl) (Mur.attC y.k y.r y.n y.t) (by rw [Mur.attC_length y.hk y.hr y.ht]; kernel_rfl) ((Mur.SlA.chg (Mur.SlA.chg hb kk8 (fun g off e hl => trivial)) hw' (fun g off e hl => trivial)).elem hy))) sS7 ?_
  refine Wk.dV 10 45 (.agg ((Mur.attC x.k x.r x.n x.t).toArray)) rfl rfl (fun w' hw' => (Mur.loadArr 32 (.tmp 4) rfl _ Tryd.underlying32 rfl w.heap.size (by kernel_rfl) (Mur.attC x.k x.r x.n x.t).toArray 97 (Mur.attC_size x.hk x.hr x.ht) (by kernel_rfl) 32 (0, 0) (Wk.Chg.hp hw' (Wk.Chg.hp ch8 hbx trivial) trivial))) sS7 ?_
  refine Wk.dOp 11 (by kernel_rfl) ?_
  refine Wk.oCallV (some 46) (.tmp 40) 40 #[] [.tmp 44, .tmp 45] #[32, 32] [.agg ((Mur.attC y.k y.r y.n y.t).toArray), .agg ((Mur.attC x.k x.r x.n x.t).toArray)] rfl rfl (by kernel_rfl) rfl (by kernel_rfl) (by kernel_rfl) (by kernel_rfl) ?_
  refine (compare_any y x W10).mono ?_
  rintro _ W11 ⟨rfl, ch9⟩
  have zz9 := ch9.size
  have sS8 := Wk.Chg.step sS7 ch9 trivial
  refine ⟨_, rfl, sS8, ?_⟩
  refine Wk.dV 12 47 (.bool false) rfl rfl (fun w' hw' => (Wk.boolF (b := ((Mur.cmpA y x) == (0 : Int))) (beq_eq_false_iff_ne.2 (fun q => hyx ((Mur.cmpA_zero y x).1 q))) (by kernel_rfl))) sS8 ?_
  refine Wk.dV 13 48 (.bool false) rfl rfl (fun _ _ => by kernel_rfl) sS8 ?_
  refine Wk.dV 14 6 (.int .i64 ((i : Nat) : Int)) rfl rfl (fun _ _ => by kernel_rfl) sS8 ?_
  refine Wk.dV 15 7 (.bool false) rfl rfl (fun _ _ => by kernel_rfl) sS8 ?_
  refine Wk.dEnd (by kernel_rfl) (Wk.nxt (wp_ret ?_))
  have kk9 := Wk.Chg.step kk8 ch9 trivial
  refine Wk.ret (.tuple #[.int .i64 ((i : Nat) : Int), .bool false]) rfl (by kernel_rfl) ?_
  exact ⟨by rw [hip, decide_eq_false hmem], kk9⟩
 have hmem : ¬ (x ∈ L) := fun q => by have h1 := (Mur.pos_mem hs).1 q; rw [hip, List.getElem?_eq_none (by have := hb.len; omega)] at h1; cases h1
 refine wp_seq (wp_seq (Wk.reg ?_))
 refine Wk.rP 0 15 (.int .i64 ((i : Nat) : Int)) rfl rfl ?_
 refine Wk.rP 1 16 (.int .i64 ((j : Nat) : Int)) rfl rfl ?_
 refine Wk.rQ 2 17 (.bool false) rfl rfl (Wk.boolF (b := decide (((i : Nat) : Int) < ((j : Nat) : Int))) (decide_eq_false (by omega)) (by kernel_rfl)) ?_
 refine Wk.rEnd 3 rfl (Wk.nxt (wp_cond_false (by kernel_rfl) (wp_exit (Wk.thX (Wk.thX (Wk.inX (Wk.nxt (wp_seq ?_))))))))
 refine Wk.dReg ([]) (by kernel_rfl) ?_
 intro W12 ch10 sz6
 have zz10 := ch10.size
 have sS9 : Wk.Chg ([]) W12 W12 := (Wk.Chg.refl _).more (by simp)
 refine Wk.dV 0 35 (.int .i64 ((i : Nat) : Int)) rfl rfl (fun _ _ => by kernel_rfl) sS9 ?_
 refine Wk.dV 1 36 (.int .i64 ((i : Nat) : Int)) rfl rfl (fun _ _ => by kernel_rfl) sS9 ?_
 refine Wk.dV 2 37 (.int .i64 ((n : Nat) : Int)) rfl rfl (fun _ _ => by kernel_rfl) sS9 ?_
 refine Wk.dV 3 38 (.bool false) rfl rfl (fun w' hw' => (Wk.boolF (b := decide (((i : Nat) : Int) < ((n : Nat) : Int))) (decide_eq_false (by omega)) (by kernel_rfl))) sS9 ?_
 refine Wk.dV 4 39 (.bool false) rfl rfl (fun _ _ => by kernel_rfl) sS9 ?_
 refine Wk.dPass 5 (some 40) rfl rfl (by kernel_rfl) (by kernel_rfl) (by kernel_rfl) (fun _ _ _ h => h) (by kernel_rfl) sS9 ?_
 refine Wk.dPass 6 (some 41) rfl rfl (by kernel_rfl) (by kernel_rfl) (by kernel_rfl) (fun _ _ _ h => h) (by kernel_rfl) sS9 ?_
 refine Wk.dPass 7 (some 42) rfl rfl (by kernel_rfl) (by kernel_rfl) (by kernel_rfl) (fun _ _ _ h => h) (by kernel_rfl) sS9 ?_
 refine Wk.dPass 8 (some 43) rfl rfl (by kernel_rfl) (by kernel_rfl) (by kernel_rfl) (fun _ _ _ h => h) (by kernel_rfl) sS9 ?_
 refine Wk.dPass 9 (some 44) rfl rfl (by kernel_rfl) (by kernel_rfl) (by kernel_rfl) (fun _ _ _ h => h) (by kernel_rfl) sS9 ?_
 refine Wk.dPass 10 (some 45) rfl rfl (by kernel_rfl) (by kernel_rfl) (by kernel_rfl) (fun _ _ _ h => h) (by kernel_rfl) sS9 ?_
 refine Wk.dPass 11 (some 46) rfl rfl (by kernel_rfl) (by kernel_rfl) (by kernel_rfl) (fun _ _ _ h => h) (by kernel_rfl) sS9 ?_
 refine Wk.dPass 12 (some 47) rfl rfl (by kernel_rfl) (by kernel_rfl) (by kernel_rfl) (fun _ _ _ h => h) (by kernel_rfl) sS9 ?_
 refine Wk.dV 13 48 (.bool false) rfl rfl (fun _ _ => by kernel_rfl) sS9 ?_
 refine Wk.dV 14 6 (.int .i64 ((i : Nat) : Int)) rfl rfl (fun _ _ => by kernel_rfl) sS9 ?_
 refine Wk.dV 15 7 (.bool false) rfl rfl (fun _ _ => by kernel_rfl) sS9 ?_
 refine Wk.dEnd (by kernel_rfl) (Wk.nxt (wp_ret ?_))
 have kk10 := Wk.Chg.step HC ch10 trivial
 refine Wk.ret (.tuple #[.int .i64 ((i : Nat) : Int), .bool false]) rfl (by kernel_rfl) ?_
 exact ⟨by rw [hip, decide_eq_false hmem], kk10⟩
end Go.Proofs.YtfhneademopciaaDoor
