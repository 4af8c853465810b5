/- sha.block, walked: it is the plain function's round. -/
import Derived.Test.YtljfjjofhclhiaaDoorProg
import Derived.Test.YtljfjjofhclhiaaDoorSpec
import Derived.Test.YtljfjjofhclhiaaDoorU32
import Derived.Test.YtljfjjofhclhiaaDoorMem
import Derived.Test.YtljfjjofhclhiaaDoorTail
import Derived.Test.YtljfjjofhclhiaaDoorRot
import Derived.WalkKit
import Derived.WalkLawsBesides
import Derived.WalkSpells
import Derived.Deep.QuietTactic
import Derived.BigQuiet
import Derived.Laws.CopyOwn
namespace Go.Proofs.YtljfjjofhclhiaaDoor
open Go.RowKit
open Mur (St w32 u32s cell_u32s free_row set_u32s)
def stV (s : St) : Value := .agg #[.int .u32 (w32 s.a), .int .u32 (w32 s.b), .int .u32 (w32 s.c), .int .u32 (w32 s.d), .int .u32 (w32 s.e), .int .u32 (w32 s.f), .int .u32 (w32 s.g), .int .u32 (w32 s.h)]
def L1 (w : World) (s : List UInt32) (ws : List UInt32) (wr : World) : Prop :=
  Below w.heap.size w wr ∧ wr.heap.size = w.heap.size + 3 ∧ wr.heap[w.heap.size]? = some (.cells (u32s s) 60 (0, 0)) ∧ wr.heap[w.heap.size + 1]? = some (.cells (u32s (List.replicate 8 0)) 60 (0, 0)) ∧
  wr.heap[w.heap.size + 1 + 1]? = some (.cells (u32s ws) 61 (0, 0))
theorem L1.set {w wr : World} {s ws : List UInt32} (h : L1 w s ws wr) (n k : Nat) (x : UInt32) : L1 w s (ws.set k x) ((wr.drewN n).setCell ⟨w.heap.size + 1 + 1, k, none⟩ (.int .u32 (w32 x))) := by
  obtain ⟨h0, h1, h2, h3, h4⟩ := h
  refine ⟨(Mur.below_drewN h0 n).setCell (by simp; omega) _, by simpa using h1, Mur.hp_set_ne (Mur.hp_drewN h2 n) _ _ _ (by omega), Mur.hp_set_ne (Mur.hp_drewN h3 n) _ _ _ (by omega), set_u32s (Mur.hp_drewN h4 n) x⟩
theorem L1.drewN {w wr : World} {s ws : List UInt32} (h : L1 w s ws wr) (n : Nat) : L1 w s ws (wr.drewN n) := ⟨Mur.below_drewN h.1 n, h.2.1, h.2.2.1, h.2.2.2.1, h.2.2.2.2⟩
theorem sum4 (a b c d : UInt32) : (w32 a + w32 b + w32 c + w32 d) % 4294967296 = w32 (a + b + c + d) := by
  unfold w32
  rw [UInt32.toNat_add, UInt32.toNat_add, UInt32.toNat_add]
  omega
theorem sum5 (a b c d e : UInt32) : (w32 a + w32 b + w32 c + w32 d + w32 e) % 4294967296 = w32 (a + b + c + d + e) := by
  unfold w32
  rw [UInt32.toNat_add, UInt32.toNat_add, UInt32.toNat_add, UInt32.toNat_add]
  omega
theorem sum1_4 (a b c d e : UInt32) : (w32 e + (w32 a + w32 b + w32 c + w32 d)) % 4294967296 = w32 (e + (a + b + c + d)) := by
  unfold w32
  rw [UInt32.toNat_add, UInt32.toNat_add, UInt32.toNat_add, UInt32.toNat_add]
  omega
theorem idx_0 (x0 x1 x2 x3 x4 x5 x6 x7 : Value) (w : World) : (Instr.index 60 (.agg #[x0, x1, x2, x3, x4, x5, x6, x7]) (.int .i64 0)).run Tryd.prog w = .ok x0 w := by kernel_rfl
theorem idx_1 (x0 x1 x2 x3 x4 x5 x6 x7 : Value) (w : World) : (Instr.index 60 (.agg #[x0, x1, x2, x3, x4, x5, x6, x7]) (.int .i64 1)).run Tryd.prog w = .ok x1 w := by kernel_rfl
theorem idx_2 (x0 x1 x2 x3 x4 x5 x6 x7 : Value) (w : World) : (Instr.index 60 (.agg #[x0, x1, x2, x3, x4, x5, x6, x7]) (.int .i64 2)).run Tryd.prog w = .ok x2 w := by kernel_rfl
theorem idx_3 (x0 x1 x2 x3 x4 x5 x6 x7 : Value) (w : World) : (Instr.index 60 (.agg #[x0, x1, x2, x3, x4, x5, x6, x7]) (.int .i64 3)).run Tryd.prog w = .ok x3 w := by kernel_rfl
theorem idx_4 (x0 x1 x2 x3 x4 x5 x6 x7 : Value) (w : World) : (Instr.index 60 (.agg #[x0, x1, x2, x3, x4, x5, x6, x7]) (.int .i64 4)).run Tryd.prog w = .ok x4 w := by kernel_rfl
theorem idx_5 (x0 x1 x2 x3 x4 x5 x6 x7 : Value) (w : World) : (Instr.index 60 (.agg #[x0, x1, x2, x3, x4, x5, x6, x7]) (.int .i64 5)).run Tryd.prog w = .ok x5 w := by kernel_rfl
theorem idx_6 (x0 x1 x2 x3 x4 x5 x6 x7 : Value) (w : World) : (Instr.index 60 (.agg #[x0, x1, x2, x3, x4, x5, x6, x7]) (.int .i64 6)).run Tryd.prog w = .ok x6 w := by kernel_rfl
theorem idx_7 (x0 x1 x2 x3 x4 x5 x6 x7 : Value) (w : World) : (Instr.index 60 (.agg #[x0, x1, x2, x3, x4, x5, x6, x7]) (.int .i64 7)).run Tryd.prog w = .ok x7 w := by kernel_rfl
def sAdd (s t : List UInt32) : Nat → List UInt32
  | 0 => s
  | k + 1 => (sAdd s t k).set k ((sAdd s t k).getD k 0 + t.getD k 0)
theorem sAdd_length (s t : List UInt32) (k : Nat) : (sAdd s t k).length = s.length := by
  induction k with
  | zero => rfl
  | succ k ih => simp [sAdd, ih]
theorem idx_any (st : St) (k : Nat) (h : k < 8) (w : World) : (Instr.index 60 (.agg #[.int .u32 (w32 st.a), .int .u32 (w32 st.b), .int .u32 (w32 st.c), .int .u32 (w32 st.d), .int .u32 (w32 st.e), .int .u32 (w32 st.f), .int .u32 (w32 st.g), .int .u32 (w32 st.h)]) (.int .i64 (k : Int))).run Tryd.prog w = .ok (.int .u32 (w32 (st.toList.getD k 0))) w := by
  obtain rfl | rfl | rfl | rfl | rfl | rfl | rfl | rfl : k = 0 ∨ k = 1 ∨ k = 2 ∨ k = 3 ∨ k = 4 ∨ k = 5 ∨ k = 6 ∨ k = 7 := by omega
  · exact idx_0 _ _ _ _ _ _ _ _ w
  · exact idx_1 _ _ _ _ _ _ _ _ w
  · exact idx_2 _ _ _ _ _ _ _ _ w
  · exact idx_3 _ _ _ _ _ _ _ _ w
  · exact idx_4 _ _ _ _ _ _ _ _ w
  · exact idx_5 _ _ _ _ _ _ _ _ w
  · exact idx_6 _ _ _ _ _ _ _ _ w
  · exact idx_7 _ _ _ _ _ _ _ _ w
theorem L1.setS {w wr : World} {s ws : List UInt32} (h : L1 w s ws wr) (k : Nat) (x : UInt32) : L1 w (s.set k x) ws (wr.setCell ⟨w.heap.size, k, none⟩ (.int .u32 (w32 x))) := by
  obtain ⟨h0, h1, h2, h3, h4⟩ := h
  exact ⟨h0.setCell (by simp) _, by simpa using h1, set_u32s h2 x, Mur.hp_set_ne h3 _ _ _ (by omega), Mur.hp_set_ne h4 _ _ _ (by omega)⟩
attribute [local go_sem] Mur.wrap_u32_u8 Mur.shl24 Mur.shl16 Mur.shl8 Mur.shr3 Mur.shr10 Mur.bits_or_u32 Mur.bits_and_u32 Mur.bits_xor_u32 Mur.bits_not_u32 Mur.wrap_add_u32 Mur.wrap_not_u32
set_option maxRecDepth 100000
set_option maxHeartbeats 2000000
theorem block_any (s : St) (b : List UInt8) (g off n c : Nat) (w : World) (hK : ∀ i, i < 64 → w.cell? ⟨1, i, none⟩ = some (.int .u32 (w32 (Mur.K.getD i 0))))
    (hb : ∀ j, j < 64 → w.cell? ⟨g, off + j, none⟩ = some (.int .u8 ((b.getD j 0).toNat : Int))) (hn : 64 ≤ n) (hnc : n ≤ 140737488351232) (hg : g < w.heap.size) (h1 : 1 < w.heap.size) :
    Calls Tryd.prog 42 #[stV s, .slice (some ⟨g, off, none⟩) n c] w fun e w' => e = .returned (stV (Mur.block s b)) ∧ Below w.heap.size w w' := by
  unfold stV
  have HK := Go.Lib.hid hK; clear hK
  have HB := Go.Lib.hid hb; clear hb
  go_enter Tryd.func42, Tryd.ntmps42
  go_wp2
  go_loopw [23] (fun t wr => ∃ k : Nat, k ≤ 16 ∧ t = .int .i64 k ∧ L1 w s.toList (Mur.wTo b k) wr) (fun t _ => 16 - (intOf t).toNat)
  case atStart =>
    refine ⟨0, by omega, rfl, ?_⟩
    refine ⟨?_, by simp, ?_, ?_, ?_⟩
    · exact (((Below.refl _ _).alloc (Nat.le_refl _) _).alloc (by simp) _).alloc (by simp; omega) _
    · exact (Mur.hp_old (Mur.hp_old (Mur.hp_a1 _ _) _) _).trans rfl
    · exact (Mur.hp_old (Mur.hp_a2 _ _ _) _).trans rfl
    · exact (Mur.hp_a3 _ _ _ _).trans rfl
  case round =>
    obtain ⟨k, hk, rfl, HL⟩ := hrel
    by_cases hlt : k < 16
    · have hcell : ∀ j, j < 64 → wr.cell? ⟨g, off + j, none⟩ = some (.int .u8 ((b.getD j 0).toNat : Int)) := fun j hj => (HL.1.cell (p := ⟨g, off + j, none⟩) hg).trans (HB.out j hj)
      have c0 := hcell (4 * k) (by omega)
      have c1 := hcell (4 * k + 1) (by omega)
      have c2 := hcell (4 * k + 2) (by omega)
      have c3 := hcell (4 * k + 3) (by omega)
      have cw := cell_u32s (i := k) HL.2.2.2.2 (by rw [Mur.wTo_length]; omega)
      have fw := free_row (i := k) HL.2.2.2.2
      clear hcell
      go_wp2
      refine Mur.wp_quiet_tail 34 (by kernel_rfl) (by kernel_rfl) ?_
      simp only [List.take_succ_cons, List.take_zero, List.drop_succ_cons, List.drop_zero]
      repeat (go_big_quiet_step (fail))
      refine wpQuiet_nil ?_
      rintro _ ⟨nq, rfl⟩
      go_wp2
      refine ⟨⟨k + 1, by omega, by go_num, ?_⟩, by simp [intOf]; omega⟩
      have e : Mur.wTo b (k + 1) = (Mur.wTo b k).set k (Mur.be32 (b[4 * k]?.getD 0) (b[4 * k + 1]?.getD 0) (b[4 * k + 2]?.getD 0) (b[4 * k + 3]?.getD 0)) := by
        conv => lhs; unfold Mur.wTo
        rw [Mur.wNext, if_pos hlt, Mur.wordAt]
        simp only [List.getD_eq_getElem?_getD]
      rw [e]
      exact HL.set _ _ _
    · obtain rfl : k = 16 := by omega
      go_wp2
      go_loopw [7] (fun t wr => ∃ k : Nat, 16 ≤ k ∧ k ≤ 64 ∧ t = .int .i64 k ∧ L1 w s.toList (Mur.wTo b k) wr) (fun t _ => 64 - (intOf t).toNat)
      case atStart => exact ⟨16, by omega, by omega, rfl, HL⟩
      case round =>
        clear HL
        obtain ⟨k, hk16, hk, rfl, HL⟩ := hrel
        by_cases hlt : k < 64
        · have hl := Mur.wTo_length b k
          have cx := cell_u32s (i := k - 15) HL.2.2.2.2 (by omega)
          have cy := cell_u32s (i := k - 2) HL.2.2.2.2 (by omega)
          have c16 := cell_u32s (i := k - 16) HL.2.2.2.2 (by omega)
          have c7 := cell_u32s (i := k - 7) HL.2.2.2.2 (by omega)
          have cw := cell_u32s (i := k) HL.2.2.2.2 (by omega)
          have fw := free_row (i := k) HL.2.2.2.2
          clear hl
          go_wp2
          go_quiet (fail)
          go_wp2
          refine Mur.wp_quiet_tail 28 (by kernel_rfl) (by kernel_rfl) ?_
          simp only [List.take_succ_cons, List.take_zero, List.drop_succ_cons, List.drop_zero]
          repeat (go_big_quiet_step (exact Mur.q_of2 (right_any _ _ (by decide))))
          refine wpQuiet_nil ?_
          rintro _ ⟨nq, rfl⟩
          go_wp2
          refine ⟨⟨k + 1, by omega, by omega, by go_num, ?_⟩, by simp [intOf]; omega⟩
          have e : Mur.wTo b (k + 1) = (Mur.wTo b k).set k ((Mur.wTo b k)[k - 16]?.getD 0 + Mur.ssig0 ((Mur.wTo b k)[k - 15]?.getD 0) + (Mur.wTo b k)[k - 7]?.getD 0 + Mur.ssig1 ((Mur.wTo b k)[k - 2]?.getD 0)) := by
            conv => lhs; unfold Mur.wTo
            rw [Mur.wNext, if_neg (by omega)]
            simp only [List.getD_eq_getElem?_getD]
          rw [e]
          exact HL.set _ _ _
        · obtain rfl : k = 64 := by omega
          have hl : s.toList.length = 8 := rfl
          have d0 := cell_u32s (i := 0) HL.2.2.1 (by omega)
          have d1 := cell_u32s (i := 1) HL.2.2.1 (by omega)
          have d2 := cell_u32s (i := 2) HL.2.2.1 (by omega)
          have d3 := cell_u32s (i := 3) HL.2.2.1 (by omega)
          have d4 := cell_u32s (i := 4) HL.2.2.1 (by omega)
          have d5 := cell_u32s (i := 5) HL.2.2.1 (by omega)
          have d6 := cell_u32s (i := 6) HL.2.2.1 (by omega)
          have d7 := cell_u32s (i := 7) HL.2.2.1 (by omega)
          simp only [St.toList, List.getD_cons_zero, List.getD_cons_succ] at d0 d1 d2 d3 d4 d5 d6 d7
          clear hl
          go_wp2
          go_quiet (fail)
          go_wp2
          clear d0 d1 d2 d3 d4 d5 d6 d7
          go_loopw [10, 11, 12, 13, 14, 15, 16, 17, 119] (fun xa xb xc xd xe xf xg xh t wr => ∃ (k : Nat) (st : St), k ≤ 64 ∧ t = .int .i64 k ∧ Hid (st = Mur.roundsTo (Mur.wTo b 64) s k) ∧
              xa = .int .u32 (w32 st.a) ∧ xb = .int .u32 (w32 st.b) ∧ xc = .int .u32 (w32 st.c) ∧ xd = .int .u32 (w32 st.d) ∧
              xe = .int .u32 (w32 st.e) ∧ xf = .int .u32 (w32 st.f) ∧ xg = .int .u32 (w32 st.g) ∧ xh = .int .u32 (w32 st.h) ∧ L1 w s.toList (Mur.wTo b 64) wr)
            (fun _ _ _ _ _ _ _ _ t _ => 64 - (intOf t).toNat)
          case atStart => exact ⟨0, s, by omega, rfl, Go.Lib.hid rfl, rfl, rfl, rfl, rfl, rfl, rfl, rfl, rfl, HL.drewN _⟩
          case round =>
            clear HL
            obtain ⟨k, st, hk, rfl, hst, rfl, rfl, rfl, rfl, rfl, rfl, rfl, rfl, HL⟩ := hrel
            by_cases hlt : k < 64
            · have cw := cell_u32s (i := k) HL.2.2.2.2 (by rw [Mur.wTo_length]; omega)
              have ck := (HL.1.cell (p := ⟨1, k, none⟩) h1).trans (HK.out k hlt)
              go_wp2
              go_quiet (exact Mur.q_of (right_any _ _ (by decide)))
              go_wp2_with (go_at_call 52; refine (right_any _ _ (by decide) _).mono ?_; rintro e w' ⟨rfl, rfl⟩)
              refine ⟨⟨_, _, _, _, _, _, _, _, _, _, _, _, ⟨k + 1, by omega, ?_, Mur.stepSt st (Mur.K.getD k 0) ((Mur.wTo b 64).getD k 0), ?_, ?_, rfl, rfl, rfl, ?_, rfl, rfl, rfl, HL.drewN _⟩, rfl, rfl, rfl, rfl, rfl, rfl, rfl, rfl, rfl, rfl, rfl, rfl⟩, by simp [intOf]; omega⟩
              · go_num
              · exact Go.Lib.hid (by rw [hst.out]; rfl)
              · rw [sum5]; simp only [List.getD_eq_getElem?_getD]; rfl
              · rw [sum1_4]; simp only [List.getD_eq_getElem?_getD]; rfl
            · obtain rfl : k = 64 := by omega
              have hl : s.toList.length = 8 := rfl
              have d0 := cell_u32s (i := 0) HL.2.2.1 (by omega)
              have d1 := cell_u32s (i := 1) HL.2.2.1 (by omega)
              have d2 := cell_u32s (i := 2) HL.2.2.1 (by omega)
              have d3 := cell_u32s (i := 3) HL.2.2.1 (by omega)
              have d4 := cell_u32s (i := 4) HL.2.2.1 (by omega)
              have d5 := cell_u32s (i := 5) HL.2.2.1 (by omega)
              have d6 := cell_u32s (i := 6) HL.2.2.1 (by omega)
              have d7 := cell_u32s (i := 7) HL.2.2.1 (by omega)
              simp only [St.toList, List.getD_cons_zero, List.getD_cons_succ] at d0 d1 d2 d3 d4 d5 d6 d7
              have f0 := free_row (i := 0) HL.2.2.1
              have f1 := free_row (i := 1) HL.2.2.1
              have f2 := free_row (i := 2) HL.2.2.1
              have f3 := free_row (i := 3) HL.2.2.1
              have f4 := free_row (i := 4) HL.2.2.1
              have f5 := free_row (i := 5) HL.2.2.1
              have f6 := free_row (i := 6) HL.2.2.1
              have f7 := free_row (i := 7) HL.2.2.1
              clear hl
              go_wp2
              have ix := fun (k : Nat) (h : k < 8) => idx_any st k h
              go_loopw [191] (fun t wr => ∃ k : Nat, k ≤ 8 ∧ t = .int .i64 k ∧ L1 w (sAdd s.toList st.toList k) (Mur.wTo b 64) wr) (fun t _ => 8 - (intOf t).toNat)
              case atStart => exact ⟨0, by omega, rfl, HL⟩
              case round =>
                clear HL
                obtain ⟨k, hk, rfl, HL⟩ := hrel
                by_cases hlt : k < 8
                · have ck := cell_u32s (i := k) HL.2.2.1 (by rw [sAdd_length]; exact hlt)
                  have fk := free_row (i := k) HL.2.2.1
                  have ik := ix k hlt
                  clear ix
                  go_wp2
                  refine ⟨⟨k + 1, by omega, by go_num, ?_⟩, by simp [intOf]; omega⟩
                  exact HL.setS k _
                · obtain rfl : k = 8 := by omega
                  clear ix
                  have hz : (u32s (sAdd s.toList st.toList 8)).size = 8 := by simp [u32s, sAdd_length]; rfl
                  go_wp2_with (first
                    | (refine wpList_load_row rfl 60 (.tmp 2) rfl w.heap.size rfl 60 (u32s (sAdd s.toList st.toList 8)) (0, 0) _ HL.2.2.1 Tryd.underlying60 rfl (by rw [hz]; kernel_rfl) ?_)
                    | (refine wpList_store_row rfl 60 (.tmp 4) (.tmp 202) rfl (w.heap.size + 1) (u32s (sAdd s.toList st.toList 8)) rfl rfl 60 (u32s (List.replicate 8 0)) HL.2.2.2.1 (by rw [hz]; kernel_rfl) (by rw [hz]; rfl) (Mur.oneCells _) ?_))
                  refine bodyPost_ret (v := .agg (u32s (sAdd s.toList st.toList 8))) (results_cell_row rfl _ _ (w.heap.size + 1) 60 (u32s (sAdd s.toList st.toList 8)) (0, 0) _ rfl (setRow_heap _ _ _ _ _ _ HL.2.2.2.1) Tryd.underlying60 rfl (by rw [hz]; kernel_rfl)) rfl ⟨?_, below_setRow HL.1 (by omega) _⟩
                  have e : (Mur.block s b).toList = sAdd s.toList st.toList 8 := by
                    rw [hst.out]
                    unfold Mur.block
                    generalize Mur.roundsTo (Mur.wTo b 64) s 64 = q
                    simp [Mur.addSt, St.toList, sAdd]
                  rw [← e]
                  rfl
end Go.Proofs.YtljfjjofhclhiaaDoor
