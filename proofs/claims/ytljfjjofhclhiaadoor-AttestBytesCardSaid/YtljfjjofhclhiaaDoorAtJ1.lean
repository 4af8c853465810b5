/- bytes.Join of an attest's four parts. -/
import Derived.Test.YtljfjjofhclhiaaDoorAtJ
namespace Go.Proofs.YtljfjjofhclhiaaDoor
open Go.RowKit
open Mur (b8s Byt Own8 Seg Segs flat cutA attC)
set_option maxRecDepth 100000
set_option maxHeartbeats 4000000
theorem Join4_any (gp : Nat) (T : TypeId) (fr : Nat × Nat) (A1 A2 A3 A4 : Option Addr) (c1 c2 c3 c4 : Nat) (k r E t : List UInt8) (w : World) (hp : w.heap[gp]? = some (.cells #[.slice A1 32 c1, .slice A2 32 c2, .slice A3 8 c3, .slice A4 32 c4] T fr)) (hy1 : Byt w A1 32 k) (hy2 : Byt w A2 32 r) (hy3 : Byt w A3 8 E) (hy4 : Byt w A4 32 t) : Calls Tryd.prog 45 #[.slice (some ⟨gp, 0, none⟩) 4 4, .slice none 0 0] w fun e w' => ∃ q, e = .returned (.slice (some ⟨q, 0, none⟩) 104 104) ∧ Byt w' (some ⟨q, 0, none⟩) 104 (((k ++ r) ++ E) ++ t) ∧ (w.heap.size ≤ q ∧ q < w'.heap.size) ∧ Wk.Chg [] w w' := by
  have hgp := (Array.getElem?_eq_some_iff.1 hp).1
  refine calls_of_wp Tryd.func45 rfl ?_
  refine wp_seq ?_
  refine Wk.reg ?_
  refine Wk.rPure 0 (some 4) (.slice none 0 0) rfl rfl (by kernel_rfl) (by kernel_rfl) ?_
  refine Wk.rEnd 1 rfl ?_
  refine Wk.nxt ?_
  refine wp_seq ?_
  refine wp_seq ?_
  refine Wk.reg ?_
  refine Wk.rPure 0 (some 12) (.slice (some ⟨gp, 0, none⟩) 4 4) rfl rfl (by kernel_rfl) (by kernel_rfl) ?_
  refine Wk.rPure 1 (some 13) (.int .i64 4) rfl rfl (by kernel_rfl) (by kernel_rfl) ?_
  refine Wk.rPure 2 (some 14) (.bool false) rfl rfl (by kernel_rfl) (Wk.boolF (b := ((4 : Int) == (0 : Int))) (beq_eq_false_iff_ne.2 (by decide)) (by kernel_rfl)) ?_
  refine Wk.rEnd 3 rfl ?_
  refine Wk.nxt ?_
  refine wp_cond_false (by kernel_rfl) ?_
  refine wp_skip ?_
  refine Wk.nxt ?_
  refine wp_seq ?_
  refine wp_seq ?_
  refine Wk.reg ?_
  refine Wk.rPure 0 (some 16) (.slice (some ⟨gp, 0, none⟩) 4 4) rfl rfl (by kernel_rfl) (by kernel_rfl) ?_
  refine Wk.rPure 1 (some 17) (.int .i64 4) rfl rfl (by kernel_rfl) (by kernel_rfl) ?_
  refine Wk.rPure 2 (some 18) (.bool false) rfl rfl (by kernel_rfl) (Wk.boolF (b := ((4 : Int) == (1 : Int))) (beq_eq_false_iff_ne.2 (by decide)) (by kernel_rfl)) ?_
  refine Wk.rEnd 3 rfl ?_
  refine Wk.nxt ?_
  refine wp_cond_false (by kernel_rfl) ?_
  refine wp_skip ?_
  refine Wk.nxt ?_
  refine wp_seq ?_
  refine Wk.reg ?_
  refine Wk.rPure 0 (some 5) (.int .i64 0) rfl rfl (by kernel_rfl) (by kernel_rfl) ?_
  refine Wk.rEnd 1 rfl ?_
  refine Wk.nxt ?_
  refine wp_seq ?_
  refine wp_seq ?_
  refine Wk.reg ?_
  refine Wk.rPure 0 (some 23) (.slice none 0 0) rfl rfl (by kernel_rfl) (by kernel_rfl) ?_
  refine Wk.rPure 1 (some 24) (.int .i64 0) rfl rfl (by kernel_rfl) (by kernel_rfl) ?_
  refine Wk.rPure 2 (some 25) (.bool false) rfl rfl (by kernel_rfl) (Wk.boolF (b := decide ((0 : Int) > (0 : Int))) (decide_eq_false (by decide)) (by kernel_rfl)) ?_
  refine Wk.rEnd 3 rfl ?_
  refine Wk.nxt ?_
  refine wp_cond_false (by kernel_rfl) ?_
  refine wp_skip ?_
  refine Wk.nxt ?_
  refine wp_seq ?_
  refine wp_seq ?_
  refine Wk.reg ?_
  refine Wk.rPure 0 (some 42) (.slice (some ⟨gp, 0, none⟩) 4 4) rfl rfl (by kernel_rfl) (by kernel_rfl) ?_
  refine Wk.rPure 1 (some 43) (.int .i64 4) rfl rfl (by kernel_rfl) (by kernel_rfl) ?_
  refine Wk.rPure 2 (some 44) (.int .i64 0) rfl rfl (by kernel_rfl) (by kernel_rfl) ?_
  refine Wk.rEnd 3 rfl ?_
  refine Wk.nxt ?_
  refine wp_block ?_
  refine Wk.loopN 5 ?_
  refine Wk.rdS ?_
  refine wp_seq ?_
  refine Wk.reg ?_
  refine Wk.rPure 0 (some 45) (.bool true) rfl rfl (by kernel_rfl) (Wk.boolT (b := decide ((0 : Int) < (4 : Int))) (decide_eq_true (by decide)) (by kernel_rfl)) ?_
  refine Wk.rEnd 1 rfl ?_
  refine Wk.nxt ?_
  refine wp_seq ?_
  refine wp_cond_true (by kernel_rfl) ?_
  refine wp_skip ?_
  refine Wk.nxt ?_
  refine wp_seq ?_
  refine wp_block ?_
  refine wp_seq ?_
  refine Wk.reg ?_
  refine Wk.rPure 0 (some 46) (.pointer (some ⟨gp, 0, none⟩)) rfl rfl (by kernel_rfl) (Wk.index_sl 29 22 (.tmp 42) (.tmp 44) rfl Tryd.underlying29 1 (by kernel_rfl) gp 0 4 4 0 .i64 (by kernel_rfl) (by kernel_rfl) (by omega)) ?_
  refine Wk.rPure 1 (some 47) (.slice A1 32 c1) rfl rfl (by kernel_rfl) (Wk.load1 22 (.tmp 46) rfl (by kernel_rfl) ⟨gp, 0, none⟩ (by kernel_rfl) (.slice A1 32 c1) ((cell_of_row _ _ 0 _ _ _ hp).trans rfl)) ?_
  refine Wk.rPure 2 (some 7) (.slice A1 32 c1) rfl rfl (by kernel_rfl) (by kernel_rfl) ?_
  refine Wk.rEnd 3 rfl ?_
  refine Wk.nxt ?_
  refine wp_seq ?_
  refine wp_seq ?_
  refine Wk.reg ?_
  refine Wk.rPure 0 (some 48) (.slice A1 32 c1) rfl rfl (by kernel_rfl) (by kernel_rfl) ?_
  refine Wk.rPure 1 (some 49) (.int .i64 32) rfl rfl (by kernel_rfl) (by kernel_rfl) ?_
  refine Wk.rPure 2 (some 50) (.int .i64 0) rfl rfl (by kernel_rfl) (by kernel_rfl) ?_
  refine Wk.rPure 3 (some 51) (.int .i64 9223372036854775807) rfl rfl (by kernel_rfl) (Wk.int64 (n := 9223372036854775807 - 0) (z := 9223372036854775807) (by omega) (by omega) (by omega) (by kernel_rfl)) ?_
  refine Wk.rPure 4 (some 52) (.bool false) rfl rfl (by kernel_rfl) (Wk.boolF (b := decide ((32 : Int) > (9223372036854775807 : Int))) (decide_eq_false (by decide)) (by kernel_rfl)) ?_
  refine Wk.rEnd 5 rfl ?_
  refine Wk.nxt ?_
  refine wp_cond_false (by kernel_rfl) ?_
  refine wp_skip ?_
  refine Wk.nxt ?_
  refine Wk.reg ?_
  refine Wk.rPure 0 (some 54) (.int .i64 0) rfl rfl (by kernel_rfl) (by kernel_rfl) ?_
  refine Wk.rPure 1 (some 55) (.slice A1 32 c1) rfl rfl (by kernel_rfl) (by kernel_rfl) ?_
  refine Wk.rPure 2 (some 56) (.int .i64 32) rfl rfl (by kernel_rfl) (by kernel_rfl) ?_
  refine Wk.rPure 3 (some 57) (.int .i64 32) rfl rfl (by kernel_rfl) (Wk.int64 (n := 0 + 32) (z := 32) (by omega) (by omega) (by omega) (by kernel_rfl)) ?_
  refine Wk.rPure 4 (some 5) (.int .i64 32) rfl rfl (by kernel_rfl) (by kernel_rfl) ?_
  refine Wk.rEnd 5 rfl ?_
  refine Wk.inN ?_
  refine Wk.nxt ?_
  refine Wk.reg ?_
  refine Wk.rPure 0 (some 58) (.int .i64 1) rfl rfl (by kernel_rfl) (Wk.int64 (n := 0 + 1) (z := 1) (by omega) (by omega) (by omega) (by kernel_rfl)) ?_
  refine Wk.rPure 1 (some 44) (.int .i64 1) rfl rfl (by kernel_rfl) (by kernel_rfl) ?_
  refine Wk.rEnd 2 rfl ?_
  refine Wk.nxt ?_
  refine Wk.rdS ?_
  refine wp_seq ?_
  refine Wk.reg ?_
  refine Wk.rPure 0 (some 45) (.bool true) rfl rfl (by kernel_rfl) (Wk.boolT (b := decide ((1 : Int) < (4 : Int))) (decide_eq_true (by decide)) (by kernel_rfl)) ?_
  refine Wk.rEnd 1 rfl ?_
  refine Wk.nxt ?_
  refine wp_seq ?_
  refine wp_cond_true (by kernel_rfl) ?_
  refine wp_skip ?_
  refine Wk.nxt ?_
  refine wp_seq ?_
  refine wp_block ?_
  refine wp_seq ?_
  refine Wk.reg ?_
  refine Wk.rPure 0 (some 46) (.pointer (some ⟨gp, 1, none⟩)) rfl rfl (by kernel_rfl) (Wk.index_sl 29 22 (.tmp 42) (.tmp 44) rfl Tryd.underlying29 1 (by kernel_rfl) gp 0 4 4 1 .i64 (by kernel_rfl) (by kernel_rfl) (by omega)) ?_
  refine Wk.rPure 1 (some 47) (.slice A2 32 c2) rfl rfl (by kernel_rfl) (Wk.load1 22 (.tmp 46) rfl (by kernel_rfl) ⟨gp, 1, none⟩ (by kernel_rfl) (.slice A2 32 c2) ((cell_of_row _ _ 1 _ _ _ hp).trans rfl)) ?_
  refine Wk.rPure 2 (some 7) (.slice A2 32 c2) rfl rfl (by kernel_rfl) (by kernel_rfl) ?_
  refine Wk.rEnd 3 rfl ?_
  refine Wk.nxt ?_
  refine wp_seq ?_
  refine wp_seq ?_
  refine Wk.reg ?_
  refine Wk.rPure 0 (some 48) (.slice A2 32 c2) rfl rfl (by kernel_rfl) (by kernel_rfl) ?_
  refine Wk.rPure 1 (some 49) (.int .i64 32) rfl rfl (by kernel_rfl) (by kernel_rfl) ?_
  refine Wk.rPure 2 (some 50) (.int .i64 32) rfl rfl (by kernel_rfl) (by kernel_rfl) ?_
  refine Wk.rPure 3 (some 51) (.int .i64 9223372036854775775) rfl rfl (by kernel_rfl) (Wk.int64 (n := 9223372036854775807 - 32) (z := 9223372036854775775) (by omega) (by omega) (by omega) (by kernel_rfl)) ?_
  refine Wk.rPure 4 (some 52) (.bool false) rfl rfl (by kernel_rfl) (Wk.boolF (b := decide ((32 : Int) > (9223372036854775775 : Int))) (decide_eq_false (by decide)) (by kernel_rfl)) ?_
  refine Wk.rEnd 5 rfl ?_
  refine Wk.nxt ?_
  refine wp_cond_false (by kernel_rfl) ?_
  refine wp_skip ?_
  refine Wk.nxt ?_
  refine Wk.reg ?_
  refine Wk.rPure 0 (some 54) (.int .i64 32) rfl rfl (by kernel_rfl) (by kernel_rfl) ?_
  refine Wk.rPure 1 (some 55) (.slice A2 32 c2) rfl rfl (by kernel_rfl) (by kernel_rfl) ?_
  refine Wk.rPure 2 (some 56) (.int .i64 32) rfl rfl (by kernel_rfl) (by kernel_rfl) ?_
  refine Wk.rPure 3 (some 57) (.int .i64 64) rfl rfl (by kernel_rfl) (Wk.int64 (n := 32 + 32) (z := 64) (by omega) (by omega) (by omega) (by kernel_rfl)) ?_
  refine Wk.rPure 4 (some 5) (.int .i64 64) rfl rfl (by kernel_rfl) (by kernel_rfl) ?_
  refine Wk.rEnd 5 rfl ?_
  refine Wk.inN ?_
  refine Wk.nxt ?_
  refine Wk.reg ?_
  refine Wk.rPure 0 (some 58) (.int .i64 2) rfl rfl (by kernel_rfl) (Wk.int64 (n := 1 + 1) (z := 2) (by omega) (by omega) (by omega) (by kernel_rfl)) ?_
  refine Wk.rPure 1 (some 44) (.int .i64 2) rfl rfl (by kernel_rfl) (by kernel_rfl) ?_
  refine Wk.rEnd 2 rfl ?_
  refine Wk.nxt ?_
  refine Wk.rdS ?_
  refine wp_seq ?_
  refine Wk.reg ?_
  refine Wk.rPure 0 (some 45) (.bool true) rfl rfl (by kernel_rfl) (Wk.boolT (b := decide ((2 : Int) < (4 : Int))) (decide_eq_true (by decide)) (by kernel_rfl)) ?_
  refine Wk.rEnd 1 rfl ?_
  refine Wk.nxt ?_
  refine wp_seq ?_
  refine wp_cond_true (by kernel_rfl) ?_
  refine wp_skip ?_
  refine Wk.nxt ?_
  refine wp_seq ?_
  refine wp_block ?_
  refine wp_seq ?_
  refine Wk.reg ?_
  refine Wk.rPure 0 (some 46) (.pointer (some ⟨gp, 2, none⟩)) rfl rfl (by kernel_rfl) (Wk.index_sl 29 22 (.tmp 42) (.tmp 44) rfl Tryd.underlying29 1 (by kernel_rfl) gp 0 4 4 2 .i64 (by kernel_rfl) (by kernel_rfl) (by omega)) ?_
  refine Wk.rPure 1 (some 47) (.slice A3 8 c3) rfl rfl (by kernel_rfl) (Wk.load1 22 (.tmp 46) rfl (by kernel_rfl) ⟨gp, 2, none⟩ (by kernel_rfl) (.slice A3 8 c3) ((cell_of_row _ _ 2 _ _ _ hp).trans rfl)) ?_
  refine Wk.rPure 2 (some 7) (.slice A3 8 c3) rfl rfl (by kernel_rfl) (by kernel_rfl) ?_
  refine Wk.rEnd 3 rfl ?_
  refine Wk.nxt ?_
  refine wp_seq ?_
  refine wp_seq ?_
  refine Wk.reg ?_
  refine Wk.rPure 0 (some 48) (.slice A3 8 c3) rfl rfl (by kernel_rfl) (by kernel_rfl) ?_
  refine Wk.rPure 1 (some 49) (.int .i64 8) rfl rfl (by kernel_rfl) (by kernel_rfl) ?_
  refine Wk.rPure 2 (some 50) (.int .i64 64) rfl rfl (by kernel_rfl) (by kernel_rfl) ?_
  refine Wk.rPure 3 (some 51) (.int .i64 9223372036854775743) rfl rfl (by kernel_rfl) (Wk.int64 (n := 9223372036854775807 - 64) (z := 9223372036854775743) (by omega) (by omega) (by omega) (by kernel_rfl)) ?_
  refine Wk.rPure 4 (some 52) (.bool false) rfl rfl (by kernel_rfl) (Wk.boolF (b := decide ((8 : Int) > (9223372036854775743 : Int))) (decide_eq_false (by decide)) (by kernel_rfl)) ?_
  refine Wk.rEnd 5 rfl ?_
  refine Wk.nxt ?_
  refine wp_cond_false (by kernel_rfl) ?_
  refine wp_skip ?_
  refine Wk.nxt ?_
  refine Wk.reg ?_
  refine Wk.rPure 0 (some 54) (.int .i64 64) rfl rfl (by kernel_rfl) (by kernel_rfl) ?_
  refine Wk.rPure 1 (some 55) (.slice A3 8 c3) rfl rfl (by kernel_rfl) (by kernel_rfl) ?_
  refine Wk.rPure 2 (some 56) (.int .i64 8) rfl rfl (by kernel_rfl) (by kernel_rfl) ?_
  refine Wk.rPure 3 (some 57) (.int .i64 72) rfl rfl (by kernel_rfl) (Wk.int64 (n := 64 + 8) (z := 72) (by omega) (by omega) (by omega) (by kernel_rfl)) ?_
  refine Wk.rPure 4 (some 5) (.int .i64 72) rfl rfl (by kernel_rfl) (by kernel_rfl) ?_
  refine Wk.rEnd 5 rfl ?_
  refine Wk.inN ?_
  refine Wk.nxt ?_
  refine Wk.reg ?_
  refine Wk.rPure 0 (some 58) (.int .i64 3) rfl rfl (by kernel_rfl) (Wk.int64 (n := 2 + 1) (z := 3) (by omega) (by omega) (by omega) (by kernel_rfl)) ?_
  refine Wk.rPure 1 (some 44) (.int .i64 3) rfl rfl (by kernel_rfl) (by kernel_rfl) ?_
  refine Wk.rEnd 2 rfl ?_
  refine Wk.nxt ?_
  refine Wk.rdS ?_
  refine wp_seq ?_
  refine Wk.reg ?_
  refine Wk.rPure 0 (some 45) (.bool true) rfl rfl (by kernel_rfl) (Wk.boolT (b := decide ((3 : Int) < (4 : Int))) (decide_eq_true (by decide)) (by kernel_rfl)) ?_
  refine Wk.rEnd 1 rfl ?_
  refine Wk.nxt ?_
  refine wp_seq ?_
  refine wp_cond_true (by kernel_rfl) ?_
  refine wp_skip ?_
  refine Wk.nxt ?_
  refine wp_seq ?_
  refine wp_block ?_
  refine wp_seq ?_
  refine Wk.reg ?_
  refine Wk.rPure 0 (some 46) (.pointer (some ⟨gp, 3, none⟩)) rfl rfl (by kernel_rfl) (Wk.index_sl 29 22 (.tmp 42) (.tmp 44) rfl Tryd.underlying29 1 (by kernel_rfl) gp 0 4 4 3 .i64 (by kernel_rfl) (by kernel_rfl) (by omega)) ?_
  refine Wk.rPure 1 (some 47) (.slice A4 32 c4) rfl rfl (by kernel_rfl) (Wk.load1 22 (.tmp 46) rfl (by kernel_rfl) ⟨gp, 3, none⟩ (by kernel_rfl) (.slice A4 32 c4) ((cell_of_row _ _ 3 _ _ _ hp).trans rfl)) ?_
  refine Wk.rPure 2 (some 7) (.slice A4 32 c4) rfl rfl (by kernel_rfl) (by kernel_rfl) ?_
  refine Wk.rEnd 3 rfl ?_
  refine Wk.nxt ?_
  refine wp_seq ?_
  refine wp_seq ?_
  refine Wk.reg ?_
  refine Wk.rPure 0 (some 48) (.slice A4 32 c4) rfl rfl (by kernel_rfl) (by kernel_rfl) ?_
  refine Wk.rPure 1 (some 49) (.int .i64 32) rfl rfl (by kernel_rfl) (by kernel_rfl) ?_
  refine Wk.rPure 2 (some 50) (.int .i64 72) rfl rfl (by kernel_rfl) (by kernel_rfl) ?_
  refine Wk.rPure 3 (some 51) (.int .i64 9223372036854775735) rfl rfl (by kernel_rfl) (Wk.int64 (n := 9223372036854775807 - 72) (z := 9223372036854775735) (by omega) (by omega) (by omega) (by kernel_rfl)) ?_
  refine Wk.rPure 4 (some 52) (.bool false) rfl rfl (by kernel_rfl) (Wk.boolF (b := decide ((32 : Int) > (9223372036854775735 : Int))) (decide_eq_false (by decide)) (by kernel_rfl)) ?_
  refine Wk.rEnd 5 rfl ?_
  refine Wk.nxt ?_
  refine wp_cond_false (by kernel_rfl) ?_
  refine wp_skip ?_
  refine Wk.nxt ?_
  refine Wk.reg ?_
  refine Wk.rPure 0 (some 54) (.int .i64 72) rfl rfl (by kernel_rfl) (by kernel_rfl) ?_
  refine Wk.rPure 1 (some 55) (.slice A4 32 c4) rfl rfl (by kernel_rfl) (by kernel_rfl) ?_
  refine Wk.rPure 2 (some 56) (.int .i64 32) rfl rfl (by kernel_rfl) (by kernel_rfl) ?_
  refine Wk.rPure 3 (some 57) (.int .i64 104) rfl rfl (by kernel_rfl) (Wk.int64 (n := 72 + 32) (z := 104) (by omega) (by omega) (by omega) (by kernel_rfl)) ?_
  refine Wk.rPure 4 (some 5) (.int .i64 104) rfl rfl (by kernel_rfl) (by kernel_rfl) ?_
  refine Wk.rEnd 5 rfl ?_
  refine Wk.inN ?_
  refine Wk.nxt ?_
  refine Wk.reg ?_
  refine Wk.rPure 0 (some 58) (.int .i64 4) rfl rfl (by kernel_rfl) (Wk.int64 (n := 3 + 1) (z := 4) (by omega) (by omega) (by omega) (by kernel_rfl)) ?_
  refine Wk.rPure 1 (some 44) (.int .i64 4) rfl rfl (by kernel_rfl) (by kernel_rfl) ?_
  refine Wk.rEnd 2 rfl ?_
  refine Wk.nxt ?_
  refine Wk.rdS ?_
  refine wp_seq ?_
  refine Wk.reg ?_
  refine Wk.rPure 0 (some 45) (.bool false) rfl rfl (by kernel_rfl) (Wk.boolF (b := decide ((4 : Int) < (4 : Int))) (decide_eq_false (by decide)) (by kernel_rfl)) ?_
  refine Wk.rEnd 1 rfl ?_
  refine Wk.nxt ?_
  refine wp_seq ?_
  refine wp_cond_false (by kernel_rfl) ?_
  refine wp_exit ?_
  refine Wk.thX ?_
  refine Wk.thX ?_
  refine Wk.inX ?_
  refine Wk.nxt ?_
  refine wp_seq ?_
  refine Wk.reg ?_
  refine Wk.rPure 0 (some 59) (.int .i64 104) rfl rfl (by kernel_rfl) (by kernel_rfl) ?_
  refine Wk.rEx 1 (some 60) _ rfl rfl (by kernel_rfl) (Mur.run_nz Tryd.f53.params 22 5 Tryd.func53 (by kernel_rfl) (by kernel_rfl) (by kernel_rfl) (by kernel_rfl) Tryd.underlying22 (.tmp 59) _ rfl 104 (by kernel_rfl) (by omega)) ?_
  rintro _ W1 ⟨cs1, rfl, hb1, hl1, ch1, sz1⟩
  have zz1 := ch1.size
  refine Wk.rPure 2 (some 61) (.int .i64 104) rfl rfl (by kernel_rfl) (by kernel_rfl) ?_
  refine Wk.rPure 3 (some 62) (.int .i64 104) rfl rfl (by kernel_rfl) (by kernel_rfl) ?_
  refine Wk.rPure 4 (some 63) (.slice (some ⟨w.heap.size, 0, none⟩) 104 104) rfl rfl (by kernel_rfl) (Mur.run_cut3 22 (.tmp 60) none (.tmp 61) (.tmp 62) rfl 5 Tryd.underlying22 (by kernel_rfl) w.heap.size 0 104 cs1.length 0 104 104 104 (by kernel_rfl) (.inr ⟨rfl, rfl⟩) (by kernel_rfl) (by kernel_rfl) rfl rfl (by omega) (by omega)) ?_
  refine Wk.rPure 5 (some 8) (.slice (some ⟨w.heap.size, 0, none⟩) 104 104) rfl rfl (by kernel_rfl) (by kernel_rfl) ?_
  refine Wk.rEnd 6 rfl ?_
  refine Wk.nxt ?_
  refine wp_seq ?_
  refine Wk.reg ?_
  refine Wk.rPure 0 (some 64) (.slice (some ⟨w.heap.size, 0, none⟩) 104 104) rfl rfl (by kernel_rfl) (by kernel_rfl) ?_
  refine Wk.rPure 1 (some 65) (.slice (some ⟨gp, 0, none⟩) 4 4) rfl rfl (by kernel_rfl) (by kernel_rfl) ?_
  refine Wk.rPure 2 (some 66) (.pointer (some ⟨gp, 0, none⟩)) rfl rfl (by kernel_rfl) (Wk.index_sl 29 22 (.tmp 65) (.const (.int .i64 0)) rfl Tryd.underlying29 1 (by kernel_rfl) gp 0 4 4 0 .i64 (by kernel_rfl) (by kernel_rfl) (by omega)) ?_
  have kk1 : Wk.Chg [] w W1 := Wk.Chg.step ((Wk.Chg.refl _).more (by simp)) ch1 trivial
  refine Wk.rPure 3 (some 67) (.slice A1 32 c1) rfl rfl (by kernel_rfl) (Wk.load1 22 (.tmp 66) rfl (by kernel_rfl) ⟨gp, 0, none⟩ (by kernel_rfl) (.slice A1 32 c1) ((cell_of_row _ _ 0 _ _ _ (Wk.Chg.hp kk1 hp trivial)).trans rfl)) ?_
  refine Wk.rEx 4 (some 68) _ rfl rfl (by kernel_rfl) (Mur.copy_mid (.tmp 64) (.tmp 67) 22 22 rfl 5 Tryd.underlying22 (by kernel_rfl) w.heap.size 0 104 104 (by kernel_rfl) A1 32 c1 (by kernel_rfl) 5 (b8s ([]) ++ cs1.drop 0) k hb1 (Mur.byt_chg hy1 kk1 (fun g off e hl => trivial)) (by omega) (by omega) (by have hfl_ := Mur.fill_len (cs := cs1) (acc := []) (p := 0) (rfl : ([] : List UInt8).length = 0) (by omega); omega) (b8s (k) ++ cs1.drop 32) (Mur.fill_step (rfl : ([] : List UInt8).length = 0) hy1.1 rfl (by omega))) ?_
  rintro _ W2 ⟨rfl, hb2, ch2⟩
  have zz2 := ch2.size
  refine Wk.rPure 5 (some 9) (.int .i64 32) rfl rfl (by kernel_rfl) (by kernel_rfl) ?_
  refine Wk.rEnd 6 rfl ?_
  refine Wk.nxt ?_
  refine wp_seq ?_
  refine wp_seq ?_
  refine Wk.reg ?_
  refine Wk.rPure 0 (some 69) (.slice (some ⟨gp, 0, none⟩) 4 4) rfl rfl (by kernel_rfl) (by kernel_rfl) ?_
  refine Wk.rPure 1 (some 70) (.slice (some ⟨gp, 1, none⟩) 3 3) rfl rfl (by kernel_rfl) (Mur.run_from_at 29 (.tmp 69) (.const (.int .i64 1)) rfl 22 Tryd.underlying29 (by kernel_rfl) gp 0 4 4 1 3 (by kernel_rfl) (by kernel_rfl) (by omega) (by omega) rfl) ?_
  refine Wk.rPure 2 (some 71) (.int .i64 3) rfl rfl (by kernel_rfl) (by kernel_rfl) ?_
  refine Wk.rPure 3 (some 72) (.int .i64 0) rfl rfl (by kernel_rfl) (by kernel_rfl) ?_
  refine Wk.rEnd 4 rfl ?_
  refine Wk.nxt ?_
  refine wp_block ?_
  refine Wk.loopN 4 ?_
  refine Wk.rdS ?_
  refine wp_seq ?_
  refine Wk.reg ?_
  refine Wk.rPure 0 (some 73) (.bool true) rfl rfl (by kernel_rfl) (Wk.boolT (b := decide ((0 : Int) < (3 : Int))) (decide_eq_true (by decide)) (by kernel_rfl)) ?_
  refine Wk.rEnd 1 rfl ?_
  refine Wk.nxt ?_
  refine wp_seq ?_
  refine wp_cond_true (by kernel_rfl) ?_
  refine wp_skip ?_
  refine Wk.nxt ?_
  refine wp_seq ?_
  refine wp_block ?_
  refine wp_seq ?_
  refine Wk.reg ?_
  refine Wk.rPure 0 (some 74) (.pointer (some ⟨gp, 1, none⟩)) rfl rfl (by kernel_rfl) (Wk.index_sl 29 22 (.tmp 70) (.tmp 72) rfl Tryd.underlying29 1 (by kernel_rfl) gp 1 3 3 0 .i64 (by kernel_rfl) (by kernel_rfl) (by omega)) ?_
  have kk2 := Wk.Chg.step kk1 ch2 ⟨.inr (by omega), trivial⟩
  refine Wk.rPure 1 (some 75) (.slice A2 32 c2) rfl rfl (by kernel_rfl) (Wk.load1 22 (.tmp 74) rfl (by kernel_rfl) ⟨gp, 1, none⟩ (by kernel_rfl) (.slice A2 32 c2) ((cell_of_row _ _ 1 _ _ _ (Wk.Chg.hp kk2 hp trivial)).trans rfl)) ?_
  refine Wk.rPure 2 (some 11) (.slice A2 32 c2) rfl rfl (by kernel_rfl) (by kernel_rfl) ?_
  refine Wk.rEnd 3 rfl ?_
  refine Wk.nxt ?_
  refine wp_seq ?_
  refine Wk.reg ?_
  refine Wk.rPure 0 (some 76) (.int .i64 32) rfl rfl (by kernel_rfl) (by kernel_rfl) ?_
  refine Wk.rPure 1 (some 77) (.slice (some ⟨w.heap.size, 0, none⟩) 104 104) rfl rfl (by kernel_rfl) (by kernel_rfl) ?_
  refine Wk.rPure 2 (some 78) (.int .i64 32) rfl rfl (by kernel_rfl) (by kernel_rfl) ?_
  refine Wk.rPure 3 (some 79) (.slice (some ⟨w.heap.size, 32, none⟩) 72 72) rfl rfl (by kernel_rfl) (Mur.run_from_at 22 (.tmp 77) (.tmp 78) rfl 5 Tryd.underlying22 (by kernel_rfl) w.heap.size 0 104 104 32 72 (by kernel_rfl) (by kernel_rfl) (by omega) (by omega) rfl) ?_
  refine Wk.rPure 4 (some 80) (.slice none 0 0) rfl rfl (by kernel_rfl) (by kernel_rfl) ?_
  refine Wk.rPure 5 (some 81) (.int .i64 0) rfl rfl (by kernel_rfl) (Mur.copy_none (.tmp 79) (.tmp 80) 22 22 rfl 5 Tryd.underlying22 (by kernel_rfl) ⟨w.heap.size, 32, none⟩ 72 72 (by kernel_rfl) (by kernel_rfl)) ?_
  refine Wk.rPure 6 (some 82) (.int .i64 32) rfl rfl (by kernel_rfl) (Wk.int64 (n := 32 + 0) (z := 32) (by omega) (by omega) (by omega) (by kernel_rfl)) ?_
  refine Wk.rPure 7 (some 9) (.int .i64 32) rfl rfl (by kernel_rfl) (by kernel_rfl) ?_
  refine Wk.rEnd 8 rfl ?_
  refine Wk.nxt ?_
  refine Wk.reg ?_
  refine Wk.rPure 0 (some 83) (.int .i64 32) rfl rfl (by kernel_rfl) (by kernel_rfl) ?_
  refine Wk.rPure 1 (some 84) (.slice (some ⟨w.heap.size, 0, none⟩) 104 104) rfl rfl (by kernel_rfl) (by kernel_rfl) ?_
  refine Wk.rPure 2 (some 85) (.int .i64 32) rfl rfl (by kernel_rfl) (by kernel_rfl) ?_
  refine Wk.rPure 3 (some 86) (.slice (some ⟨w.heap.size, 32, none⟩) 72 72) rfl rfl (by kernel_rfl) (Mur.run_from_at 22 (.tmp 84) (.tmp 85) rfl 5 Tryd.underlying22 (by kernel_rfl) w.heap.size 0 104 104 32 72 (by kernel_rfl) (by kernel_rfl) (by omega) (by omega) rfl) ?_
  refine Wk.rPure 4 (some 87) (.slice A2 32 c2) rfl rfl (by kernel_rfl) (by kernel_rfl) ?_
  refine Wk.rEx 5 (some 88) _ rfl rfl (by kernel_rfl) (Mur.copy_mid (.tmp 86) (.tmp 87) 22 22 rfl 5 Tryd.underlying22 (by kernel_rfl) w.heap.size 32 72 72 (by kernel_rfl) A2 32 c2 (by kernel_rfl) 5 (b8s (k) ++ cs1.drop 32) r hb2 (Mur.byt_chg hy2 kk2 (fun g off e hl => trivial)) (by omega) (by omega) (by have hfl_ := Mur.fill_len (cs := cs1) (acc := k) (p := 32) hy1.1 (by omega); omega) (b8s (k ++ r) ++ cs1.drop 64) (Mur.fill_step hy1.1 hy2.1 rfl (by omega))) ?_
  rintro _ W3 ⟨rfl, hb3, ch3⟩
  have zz3 := ch3.size
  refine Wk.rPure 6 (some 89) (.int .i64 64) rfl rfl (by kernel_rfl) (Wk.int64 (n := 32 + 32) (z := 64) (by omega) (by omega) (by omega) (by kernel_rfl)) ?_
  refine Wk.rPure 7 (some 9) (.int .i64 64) rfl rfl (by kernel_rfl) (by kernel_rfl) ?_
  refine Wk.rEnd 8 rfl ?_
  refine Wk.inN ?_
  refine Wk.nxt ?_
  refine Wk.reg ?_
  refine Wk.rPure 0 (some 90) (.int .i64 1) rfl rfl (by kernel_rfl) (Wk.int64 (n := 0 + 1) (z := 1) (by omega) (by omega) (by omega) (by kernel_rfl)) ?_
  refine Wk.rPure 1 (some 72) (.int .i64 1) rfl rfl (by kernel_rfl) (by kernel_rfl) ?_
  refine Wk.rEnd 2 rfl ?_
  refine Wk.nxt ?_
  refine Wk.rdS ?_
  refine wp_seq ?_
  refine Wk.reg ?_
  refine Wk.rPure 0 (some 73) (.bool true) rfl rfl (by kernel_rfl) (Wk.boolT (b := decide ((1 : Int) < (3 : Int))) (decide_eq_true (by decide)) (by kernel_rfl)) ?_
  refine Wk.rEnd 1 rfl ?_
  refine Wk.nxt ?_
  refine wp_seq ?_
  refine wp_cond_true (by kernel_rfl) ?_
  refine wp_skip ?_
  refine Wk.nxt ?_
  refine wp_seq ?_
  refine wp_block ?_
  refine wp_seq ?_
  refine Wk.reg ?_
  refine Wk.rPure 0 (some 74) (.pointer (some ⟨gp, 2, none⟩)) rfl rfl (by kernel_rfl) (Wk.index_sl 29 22 (.tmp 70) (.tmp 72) rfl Tryd.underlying29 1 (by kernel_rfl) gp 1 3 3 1 .i64 (by kernel_rfl) (by kernel_rfl) (by omega)) ?_
  have kk3 := Wk.Chg.step kk2 ch3 ⟨.inr (by omega), trivial⟩
  refine Wk.rPure 1 (some 75) (.slice A3 8 c3) rfl rfl (by kernel_rfl) (Wk.load1 22 (.tmp 74) rfl (by kernel_rfl) ⟨gp, 2, none⟩ (by kernel_rfl) (.slice A3 8 c3) ((cell_of_row _ _ 2 _ _ _ (Wk.Chg.hp kk3 hp trivial)).trans rfl)) ?_
  refine Wk.rPure 2 (some 11) (.slice A3 8 c3) rfl rfl (by kernel_rfl) (by kernel_rfl) ?_
  refine Wk.rEnd 3 rfl ?_
  refine Wk.nxt ?_
  refine wp_seq ?_
  refine Wk.reg ?_
  refine Wk.rPure 0 (some 76) (.int .i64 64) rfl rfl (by kernel_rfl) (by kernel_rfl) ?_
  refine Wk.rPure 1 (some 77) (.slice (some ⟨w.heap.size, 0, none⟩) 104 104) rfl rfl (by kernel_rfl) (by kernel_rfl) ?_
  refine Wk.rPure 2 (some 78) (.int .i64 64) rfl rfl (by kernel_rfl) (by kernel_rfl) ?_
  refine Wk.rPure 3 (some 79) (.slice (some ⟨w.heap.size, 64, none⟩) 40 40) rfl rfl (by kernel_rfl) (Mur.run_from_at 22 (.tmp 77) (.tmp 78) rfl 5 Tryd.underlying22 (by kernel_rfl) w.heap.size 0 104 104 64 40 (by kernel_rfl) (by kernel_rfl) (by omega) (by omega) rfl) ?_
  refine Wk.rPure 4 (some 80) (.slice none 0 0) rfl rfl (by kernel_rfl) (by kernel_rfl) ?_
  refine Wk.rPure 5 (some 81) (.int .i64 0) rfl rfl (by kernel_rfl) (Mur.copy_none (.tmp 79) (.tmp 80) 22 22 rfl 5 Tryd.underlying22 (by kernel_rfl) ⟨w.heap.size, 64, none⟩ 40 40 (by kernel_rfl) (by kernel_rfl)) ?_
  refine Wk.rPure 6 (some 82) (.int .i64 64) rfl rfl (by kernel_rfl) (Wk.int64 (n := 64 + 0) (z := 64) (by omega) (by omega) (by omega) (by kernel_rfl)) ?_
  refine Wk.rPure 7 (some 9) (.int .i64 64) rfl rfl (by kernel_rfl) (by kernel_rfl) ?_
  refine Wk.rEnd 8 rfl ?_
  refine Wk.nxt ?_
  refine Wk.reg ?_
  refine Wk.rPure 0 (some 83) (.int .i64 64) rfl rfl (by kernel_rfl) (by kernel_rfl) ?_
  refine Wk.rPure 1 (some 84) (.slice (some ⟨w.heap.size, 0, none⟩) 104 104) rfl rfl (by kernel_rfl) (by kernel_rfl) ?_
  refine Wk.rPure 2 (some 85) (.int .i64 64) rfl rfl (by kernel_rfl) (by kernel_rfl) ?_
  refine Wk.rPure 3 (some 86) (.slice (some ⟨w.heap.size, 64, none⟩) 40 40) rfl rfl (by kernel_rfl) (Mur.run_from_at 22 (.tmp 84) (.tmp 85) rfl 5 Tryd.underlying22 (by kernel_rfl) w.heap.size 0 104 104 64 40 (by kernel_rfl) (by kernel_rfl) (by omega) (by omega) rfl) ?_
  refine Wk.rPure 4 (some 87) (.slice A3 8 c3) rfl rfl (by kernel_rfl) (by kernel_rfl) ?_
  refine Wk.rEx 5 (some 88) _ rfl rfl (by kernel_rfl) (Mur.copy_mid (.tmp 86) (.tmp 87) 22 22 rfl 5 Tryd.underlying22 (by kernel_rfl) w.heap.size 64 40 40 (by kernel_rfl) A3 8 c3 (by kernel_rfl) 5 (b8s (k ++ r) ++ cs1.drop 64) E hb3 (Mur.byt_chg hy3 kk3 (fun g off e hl => trivial)) (by omega) (by omega) (by have hfl_ := Mur.fill_len (cs := cs1) (acc := k ++ r) (p := 64) (by simp only [List.length_append]; have := hy1.1; have := hy2.1; have := hy3.1; omega) (by omega); omega) (b8s ((k ++ r) ++ E) ++ cs1.drop 72) (Mur.fill_step (by simp only [List.length_append]; have := hy1.1; have := hy2.1; have := hy3.1; omega) hy3.1 rfl (by omega))) ?_
  rintro _ W4 ⟨rfl, hb4, ch4⟩
  have zz4 := ch4.size
  refine Wk.rPure 6 (some 89) (.int .i64 72) rfl rfl (by kernel_rfl) (Wk.int64 (n := 64 + 8) (z := 72) (by omega) (by omega) (by omega) (by kernel_rfl)) ?_
  refine Wk.rPure 7 (some 9) (.int .i64 72) rfl rfl (by kernel_rfl) (by kernel_rfl) ?_
  refine Wk.rEnd 8 rfl ?_
  refine Wk.inN ?_
  refine Wk.nxt ?_
  refine Wk.reg ?_
  refine Wk.rPure 0 (some 90) (.int .i64 2) rfl rfl (by kernel_rfl) (Wk.int64 (n := 1 + 1) (z := 2) (by omega) (by omega) (by omega) (by kernel_rfl)) ?_
  refine Wk.rPure 1 (some 72) (.int .i64 2) rfl rfl (by kernel_rfl) (by kernel_rfl) ?_
  refine Wk.rEnd 2 rfl ?_
  refine Wk.nxt ?_
  refine Wk.rdS ?_
  refine wp_seq ?_
  refine Wk.reg ?_
  refine Wk.rPure 0 (some 73) (.bool true) rfl rfl (by kernel_rfl) (Wk.boolT (b := decide ((2 : Int) < (3 : Int))) (decide_eq_true (by decide)) (by kernel_rfl)) ?_
  refine Wk.rEnd 1 rfl ?_
  refine Wk.nxt ?_
  refine wp_seq ?_
  refine wp_cond_true (by kernel_rfl) ?_
  refine wp_skip ?_
  refine Wk.nxt ?_
  refine wp_seq ?_
  refine wp_block ?_
  refine wp_seq ?_
  refine Wk.reg ?_
  refine Wk.rPure 0 (some 74) (.pointer (some ⟨gp, 3, none⟩)) rfl rfl (by kernel_rfl) (Wk.index_sl 29 22 (.tmp 70) (.tmp 72) rfl Tryd.underlying29 1 (by kernel_rfl) gp 1 3 3 2 .i64 (by kernel_rfl) (by kernel_rfl) (by omega)) ?_
  have kk4 := Wk.Chg.step kk3 ch4 ⟨.inr (by omega), trivial⟩
  refine Wk.rPure 1 (some 75) (.slice A4 32 c4) rfl rfl (by kernel_rfl) (Wk.load1 22 (.tmp 74) rfl (by kernel_rfl) ⟨gp, 3, none⟩ (by kernel_rfl) (.slice A4 32 c4) ((cell_of_row _ _ 3 _ _ _ (Wk.Chg.hp kk4 hp trivial)).trans rfl)) ?_
  refine Wk.rPure 2 (some 11) (.slice A4 32 c4) rfl rfl (by kernel_rfl) (by kernel_rfl) ?_
  refine Wk.rEnd 3 rfl ?_
  refine Wk.nxt ?_
  refine wp_seq ?_
  refine Wk.reg ?_
  refine Wk.rPure 0 (some 76) (.int .i64 72) rfl rfl (by kernel_rfl) (by kernel_rfl) ?_
  refine Wk.rPure 1 (some 77) (.slice (some ⟨w.heap.size, 0, none⟩) 104 104) rfl rfl (by kernel_rfl) (by kernel_rfl) ?_
  refine Wk.rPure 2 (some 78) (.int .i64 72) rfl rfl (by kernel_rfl) (by kernel_rfl) ?_
  refine Wk.rPure 3 (some 79) (.slice (some ⟨w.heap.size, 72, none⟩) 32 32) rfl rfl (by kernel_rfl) (Mur.run_from_at 22 (.tmp 77) (.tmp 78) rfl 5 Tryd.underlying22 (by kernel_rfl) w.heap.size 0 104 104 72 32 (by kernel_rfl) (by kernel_rfl) (by omega) (by omega) rfl) ?_
  refine Wk.rPure 4 (some 80) (.slice none 0 0) rfl rfl (by kernel_rfl) (by kernel_rfl) ?_
  refine Wk.rPure 5 (some 81) (.int .i64 0) rfl rfl (by kernel_rfl) (Mur.copy_none (.tmp 79) (.tmp 80) 22 22 rfl 5 Tryd.underlying22 (by kernel_rfl) ⟨w.heap.size, 72, none⟩ 32 32 (by kernel_rfl) (by kernel_rfl)) ?_
  refine Wk.rPure 6 (some 82) (.int .i64 72) rfl rfl (by kernel_rfl) (Wk.int64 (n := 72 + 0) (z := 72) (by omega) (by omega) (by omega) (by kernel_rfl)) ?_
  refine Wk.rPure 7 (some 9) (.int .i64 72) rfl rfl (by kernel_rfl) (by kernel_rfl) ?_
  refine Wk.rEnd 8 rfl ?_
  refine Wk.nxt ?_
  refine Wk.reg ?_
  refine Wk.rPure 0 (some 83) (.int .i64 72) rfl rfl (by kernel_rfl) (by kernel_rfl) ?_
  refine Wk.rPure 1 (some 84) (.slice (some ⟨w.heap.size, 0, none⟩) 104 104) rfl rfl (by kernel_rfl) (by kernel_rfl) ?_
  refine Wk.rPure 2 (some 85) (.int .i64 72) rfl rfl (by kernel_rfl) (by kernel_rfl) ?_
  refine Wk.rPure 3 (some 86) (.slice (some ⟨w.heap.size, 72, none⟩) 32 32) rfl rfl (by kernel_rfl) (Mur.run_from_at 22 (.tmp 84) (.tmp 85) rfl 5 Tryd.underlying22 (by kernel_rfl) w.heap.size 0 104 104 72 32 (by kernel_rfl) (by kernel_rfl) (by omega) (by omega) rfl) ?_
  refine Wk.rPure 4 (some 87) (.slice A4 32 c4) rfl rfl (by kernel_rfl) (by kernel_rfl) ?_
  refine Wk.rEx 5 (some 88) _ rfl rfl (by kernel_rfl) (Mur.copy_mid (.tmp 86) (.tmp 87) 22 22 rfl 5 Tryd.underlying22 (by kernel_rfl) w.heap.size 72 32 32 (by kernel_rfl) A4 32 c4 (by kernel_rfl) 5 (b8s ((k ++ r) ++ E) ++ cs1.drop 72) t hb4 (Mur.byt_chg hy4 kk4 (fun g off e hl => trivial)) (by omega) (by omega) (by have hfl_ := Mur.fill_len (cs := cs1) (acc := (k ++ r) ++ E) (p := 72) (by simp only [List.length_append]; have := hy1.1; have := hy2.1; have := hy3.1; omega) (by omega); omega) (b8s (((k ++ r) ++ E) ++ t) ++ cs1.drop 104) (Mur.fill_step (by simp only [List.length_append]; have := hy1.1; have := hy2.1; have := hy3.1; omega) hy4.1 rfl (by omega))) ?_
  rintro _ W5 ⟨rfl, hb5, ch5⟩
  have zz5 := ch5.size
  refine Wk.rPure 6 (some 89) (.int .i64 104) rfl rfl (by kernel_rfl) (Wk.int64 (n := 72 + 32) (z := 104) (by omega) (by omega) (by omega) (by kernel_rfl)) ?_
  refine Wk.rPure 7 (some 9) (.int .i64 104) rfl rfl (by kernel_rfl) (by kernel_rfl) ?_
  refine Wk.rEnd 8 rfl ?_
  refine Wk.inN ?_
  refine Wk.nxt ?_
  refine Wk.reg ?_
  refine Wk.rPure 0 (some 90) (.int .i64 3) rfl rfl (by kernel_rfl) (Wk.int64 (n := 2 + 1) (z := 3) (by omega) (by omega) (by omega) (by kernel_rfl)) ?_
  refine Wk.rPure 1 (some 72) (.int .i64 3) rfl rfl (by kernel_rfl) (by kernel_rfl) ?_
  refine Wk.rEnd 2 rfl ?_
  refine Wk.nxt ?_
  refine Wk.rdS ?_
  refine wp_seq ?_
  refine Wk.reg ?_
  refine Wk.rPure 0 (some 73) (.bool false) rfl rfl (by kernel_rfl) (Wk.boolF (b := decide ((3 : Int) < (3 : Int))) (decide_eq_false (by decide)) (by kernel_rfl)) ?_
  refine Wk.rEnd 1 rfl ?_
  refine Wk.nxt ?_
  refine wp_seq ?_
  refine wp_cond_false (by kernel_rfl) ?_
  refine wp_exit ?_
  refine Wk.thX ?_
  refine Wk.thX ?_
  refine Wk.inX ?_
  refine Wk.nxt ?_
  refine wp_seq ?_
  refine Wk.reg ?_
  refine Wk.rPure 0 (some 91) (.slice (some ⟨w.heap.size, 0, none⟩) 104 104) rfl rfl (by kernel_rfl) (by kernel_rfl) ?_
  refine Wk.rPure 1 (some 4) (.slice (some ⟨w.heap.size, 0, none⟩) 104 104) rfl rfl (by kernel_rfl) (by kernel_rfl) ?_
  refine Wk.rEnd 2 rfl ?_
  refine Wk.nxt ?_
  refine wp_ret ?_
  have kk5 := Wk.Chg.step kk4 ch5 ⟨.inr (by omega), trivial⟩
  refine Wk.ret (.slice (some ⟨w.heap.size, 0, none⟩) 104 104) rfl (by kernel_rfl) ?_
  exact ⟨w.heap.size, rfl, Mur.byt_fill hb5 (by simp only [List.length_append]; have := hy1.1; have := hy2.1; have := hy3.1; have := hy4.1; omega), ⟨by omega, by omega⟩, kk5⟩
end Go.Proofs.YtljfjjofhclhiaaDoor
