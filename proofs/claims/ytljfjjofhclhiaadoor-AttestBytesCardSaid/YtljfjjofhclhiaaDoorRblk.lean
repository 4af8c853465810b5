/- The reference's block, walked: it is the plain function's round. -/
import Derived.Test.YtljfjjofhclhiaaDoorSum
import Derived.Test.YtljfjjofhclhiaaDoorApp
namespace Go.Proofs.YtljfjjofhclhiaaDoor
open Go.RowKit
open Mur (St w32 u32s cell_u32s free_row set_u32s)
def L9 (w : World) (h : St) (ws : List UInt32) (wr : World) : Prop :=
  Below w.heap.size w wr ∧ wr.heap.size = w.heap.size + 4 ∧ wr.heap[w.heap.size]? = some (.cells (stCells h) 60 (0, 0)) ∧ wr.heap[w.heap.size + 1]? = some (.cells (u32s Mur.K) 61 (0, 0)) ∧
  wr.heap[w.heap.size + 1 + 1]? = some (.cells (u32s (List.replicate 8 0)) 60 (0, 0)) ∧ wr.heap[w.heap.size + 1 + 1 + 1]? = some (.cells (u32s ws) 61 (0, 0))
theorem L9.set {w wr : World} {h : St} {ws : List UInt32} (H : L9 w h ws wr) (n k : Nat) (x : UInt32) : L9 w h (ws.set k x) ((wr.drewN n).setCell ⟨w.heap.size + 1 + 1 + 1, k, none⟩ (.int .u32 (w32 x))) := by
  obtain ⟨h0, h1, h2, h3, h4, h5⟩ := H
  exact ⟨(Mur.below_drewN h0 n).setCell (by simp; omega) _, by simpa using h1, Mur.hp_set_ne (Mur.hp_drewN h2 n) _ _ _ (by omega), Mur.hp_set_ne (Mur.hp_drewN h3 n) _ _ _ (by omega), Mur.hp_set_ne (Mur.hp_drewN h4 n) _ _ _ (by omega), set_u32s (Mur.hp_drewN h5 n) x⟩
def acc4 (b : List UInt8) (t : Nat) : Nat → UInt32
  | 0 => 0
  | i + 1 => acc4 b t i * 256 + (b.getD (4 * t + i) 0).toUInt32
theorem be32_acc (a b c d : UInt8) : (((((0 : UInt32) * 256 + a.toUInt32) * 256 + b.toUInt32) * 256 + c.toUInt32) * 256 + d.toUInt32) = Mur.be32 a b c d := by
  have ha := a.toNat_lt
  have hb := b.toNat_lt
  have hc := c.toNat_lt
  have hd := d.toNat_lt
  apply UInt32.toNat_inj.1
  unfold Mur.be32
  rw [UInt32.toNat_or, UInt32.toNat_or, UInt32.toNat_or, UInt32.toNat_shiftLeft, UInt32.toNat_shiftLeft, UInt32.toNat_shiftLeft]
  simp only [UInt32.toNat_add, UInt32.toNat_mul, UInt8.toNat_toUInt32]
  have e24 : a.toNat <<< ((24 : UInt32).toNat % 32) % 2 ^ 32 = a.toNat <<< 24 := by
    show a.toNat <<< 24 % 4294967296 = a.toNat <<< 24
    rw [Nat.shiftLeft_eq]; omega
  have e16 : b.toNat <<< ((16 : UInt32).toNat % 32) % 2 ^ 32 = b.toNat <<< 16 := by
    show b.toNat <<< 16 % 4294967296 = b.toNat <<< 16
    rw [Nat.shiftLeft_eq]; omega
  have e8 : c.toNat <<< ((8 : UInt32).toNat % 32) % 2 ^ 32 = c.toNat <<< 8 := by
    show c.toNat <<< 8 % 4294967296 = c.toNat <<< 8
    rw [Nat.shiftLeft_eq]; omega
  rw [e24, e16, e8]
  have o1 : a.toNat <<< 24 ||| b.toNat <<< 16 = (a.toNat <<< 8 + b.toNat) <<< 16 := by
    rw [Nat.shiftLeft_add_eq_or_of_lt (show b.toNat < 2 ^ 8 by omega), Nat.shiftLeft_or_distrib, ← Nat.shiftLeft_add]
  have o2 : (a.toNat <<< 8 + b.toNat) <<< 16 ||| c.toNat <<< 8 = ((a.toNat <<< 8 + b.toNat) <<< 8 + c.toNat) <<< 8 := by
    rw [Nat.shiftLeft_add_eq_or_of_lt (show c.toNat < 2 ^ 8 by omega) (a.toNat <<< 8 + b.toNat), Nat.shiftLeft_or_distrib, ← Nat.shiftLeft_add]
  rw [o1, o2, ← Nat.shiftLeft_add_eq_or_of_lt (show d.toNat < 2 ^ 8 by omega)]
  simp only [Nat.shiftLeft_eq]
  have z : (0 : UInt32).toNat = 0 := rfl
  have t : (256 : UInt32).toNat = 256 := rfl
  rw [z, t]
  omega
theorem acc4_four (b : List UInt8) (t : Nat) : acc4 b t 4 = Mur.wordAt b t := by
  rw [Mur.wordAt, ← be32_acc]
  rfl
theorem hp_a4' (w : World) (A B C D : Obj) : ((((w.alloc A).alloc B).alloc C).alloc D).heap[w.heap.size + 1 + 1 + 1]? = some D := by
  have h := Mur.hp_a3 (w.alloc A) B C D
  rwa [World.size_alloc] at h
theorem wTo_zero (b : List UInt8) (n t : Nat) (h : n ≤ t) : (Mur.wTo b n).getD t 0 = 0 := by
  induction n with
  | zero =>
    simp only [Mur.wTo, List.getD_eq_getElem?_getD, List.getElem?_replicate]
    split <;> rfl
  | succ n ih =>
    rw [Mur.wTo]
    simp only [List.getD_eq_getElem?_getD]
    rw [List.getElem?_set_ne (by omega), ← List.getD_eq_getElem?_getD, ih (by omega)]
theorem set_zero (b : List UInt8) (t : Nat) (h : t < 64) : (Mur.wTo b t).set t 0 = Mur.wTo b t := by
  have hl := Mur.wTo_length b t
  have hz := wTo_zero b t t (Nat.le_refl _)
  rw [List.getD_eq_getElem?_getD, List.getElem?_eq_getElem (by omega)] at hz
  have hz' : (Mur.wTo b t)[t]'(by omega) = 0 := hz
  conv => lhs; rw [← hz', List.set_getElem_self]
theorem wrap_mul256 (a : UInt32) : IntKind.u32.wrap (w32 a * (256 : Int)) = w32 (a * 256) := by
  rw [IntKind.wrap_u32, w32, w32, UInt32.toNat_mul]
  have t : (256 : UInt32).toNat = 256 := rfl
  rw [t]
  omega
theorem bits_not_u32' (a : UInt32) : bits .xor .u32 4294967295 (w32 a) = w32 (~~~a) := Mur.bits_not_u32 a
attribute [local go_sem] Mur.wrap_u32_u8 wrap_mul256 Mur.shr3 Mur.shr10 Mur.bits_or_u32 Mur.bits_and_u32 Mur.bits_xor_u32 Mur.bits_not_u32 bits_not_u32' Mur.wrap_add_u32 Mur.wrap_not_u32
def L10 (w : World) (h : St) (ws : List UInt32) (s : St) (wr : World) : Prop :=
  Below w.heap.size w wr ∧ wr.heap[w.heap.size]? = some (.cells (stCells h) 60 (0, 0)) ∧ wr.heap[w.heap.size + 1]? = some (.cells (u32s Mur.K) 61 (0, 0)) ∧
  wr.heap[w.heap.size + 1 + 1]? = some (.cells (u32s (List.replicate 8 0)) 60 (0, 0)) ∧ wr.heap[w.heap.size + 1 + 1 + 1]? = some (.cells (u32s ws) 61 (0, 0)) ∧
  wr.heap[w.heap.size + 1 + 1 + 1 + 1]? = some (.cells (stCells s) 60 (0, 0))
theorem L10.drewN {w wr : World} {h s : St} {ws : List UInt32} (H : L10 w h ws s wr) (n : Nat) : L10 w h ws s (wr.drewN n) := ⟨Mur.below_drewN H.1 n, H.2.1, H.2.2.1, H.2.2.2.1, H.2.2.2.2.1, H.2.2.2.2.2⟩
theorem L10.wrote {w wr w1 : World} {h s t : St} {ws : List UInt32} (H : L10 w h ws s wr) (hw : Mur.Wrote (w.heap.size + 1 + 1 + 1 + 1) wr w1) (hp : w1.heap[w.heap.size + 1 + 1 + 1 + 1]? = some (.cells (stCells t) 60 (0, 0))) : L10 w h ws t w1 :=
  ⟨H.1.trans (hw.below (by omega)), hw.hp (by omega) H.2.1, hw.hp (by omega) H.2.2.1, hw.hp (by omega) H.2.2.2.1, hw.hp (by omega) H.2.2.2.2.1, hp⟩
def L11 (w : World) (h : St) (s : List UInt32) (wr : World) : Prop :=
  wr.heap[w.heap.size]? = some (.cells (stCells h) 60 (0, 0)) ∧ Below w.heap.size w wr ∧
  wr.heap[w.heap.size + 1 + 1]? = some (.cells (u32s (List.replicate 8 0)) 60 (0, 0)) ∧ wr.heap[w.heap.size + 1 + 1 + 1 + 1]? = some (.cells (u32s s) 60 (0, 0))
theorem L11.put {w wr : World} {h : St} {s : List UInt32} (H : L11 w h s wr) (n k : Nat) (x : UInt32) : L11 w h (s.set k x) ((wr.drewN n).setCell ⟨w.heap.size + 1 + 1 + 1 + 1, k, none⟩ (.int .u32 (w32 x))) := by
  obtain ⟨h0, h1, h2, h3⟩ := H
  exact ⟨Mur.hp_set_ne (Mur.hp_drewN h0 n) _ _ _ (by omega), (Mur.below_drewN h1 n).setCell (by simp; omega) _, Mur.hp_set_ne (Mur.hp_drewN h2 n) _ _ _ (by omega), set_u32s (Mur.hp_drewN h3 n) x⟩
set_option maxRecDepth 100000
set_option maxHeartbeats 4000000
theorem rblock_any (h : St) (b : List UInt8) (g off n c : Nat) (w : World) (hb : ∀ j, j < 64 → w.cell? ⟨g, off + j, none⟩ = some (.int .u8 ((b.getD j 0).toNat : Int))) (hn : 64 ≤ n) (hnc : n ≤ 140737488351232) (hg : g < w.heap.size) :
    Calls Tryd.prog 51 #[.agg (stCells h), .agg (u32s Mur.K), .slice (some ⟨g, off, none⟩) n c] w
      fun e w' => ∃ t, Hid (t = Mur.block h b) ∧ e = .returned (.agg (stCells t)) ∧ Below w.heap.size w w' := by
  have HB := Go.Lib.hid hb; clear hb
  go_enter Tryd.func51, Tryd.ntmps51
  go_wp2
  go_loopw [8] (fun t wr => ∃ k : Nat, k ≤ 16 ∧ t = .int .i64 k ∧ L9 w h (Mur.wTo b k) wr) (fun t _ => 16 - (intOf t).toNat)
  case atStart =>
    refine ⟨0, by omega, rfl, (((Below.refl _ _).alloc (Nat.le_refl _) _).alloc (by simp) _).alloc (by simp; omega) _ |>.alloc (by simp; omega) _, by simp, ?_, ?_, ?_, ?_⟩
    · exact Mur.hp_old (Mur.hp_old (Mur.hp_old (Mur.hp_a1 _ _) _) _) _
    · exact Mur.hp_old (Mur.hp_old (Mur.hp_a2 _ _ _) _) _
    · exact Mur.hp_old ((Mur.hp_a3 _ _ _ _).trans rfl) _
    · exact (hp_a4' _ _ _ _ _).trans rfl
  case round =>
    obtain ⟨k, hk, rfl, HL⟩ := hrel
    by_cases hlt : k < 16
    · go_wp2
      go_loopw [9] (fun iv wq => ∃ i : Nat, i ≤ 4 ∧ iv = .int .i64 i ∧ L9 w h ((Mur.wTo b k).set k (acc4 b k i)) wq) (fun iv _ => 4 - (intOf iv).toNat)
      case atStart => exact ⟨0, by omega, rfl, by rw [acc4, set_zero b k (by omega)]; exact HL⟩
      case round =>
        clear HL
        obtain ⟨i, hi, rfl, HL⟩ := hrel
        by_cases hlt2 : i < 4
        · have hl := Mur.wTo_length b k
          have hcell : wr.cell? ⟨g, off + (4 * k + i), none⟩ = some (.int .u8 ((b.getD (4 * k + i) 0).toNat : Int)) := (HL.1.cell (p := ⟨g, off + (4 * k + i), none⟩) hg).trans (HB.out _ (by omega))
          have cw := cell_u32s (i := k) HL.2.2.2.2.2 (by rw [List.length_set]; omega)
          have e1 : ((Mur.wTo b k).set k (acc4 b k i)).getD k 0 = acc4 b k i := by
            rw [List.getD_eq_getElem?_getD, List.getElem?_set_self (by omega)]
            rfl
          rw [e1] at cw
          obtain ⟨x, hx⟩ : ∃ x, acc4 b k i = x := ⟨_, rfl⟩
          obtain ⟨y, hy⟩ : ∃ y, b.getD (4 * k + i) 0 = y := ⟨_, rfl⟩
          rw [hx] at cw
          rw [hy] at hcell
          have HX := Go.Lib.hid hx; clear hx
          have HY := Go.Lib.hid hy; clear hy
          have fw := free_row (i := k) HL.2.2.2.2.2
          clear hl e1
          go_wp2
          refine Mur.wp_quiet_tail 14 (by kernel_rfl) (by kernel_rfl) ?_
          simp only [List.take_succ_cons, List.take_zero, List.drop_succ_cons, List.drop_zero]
          repeat (go_big_quiet_step (fail))
          refine wpQuiet_nil ?_
          rintro _ ⟨nq, rfl⟩
          go_wp2
          refine ⟨⟨i + 1, by omega, by go_num, ?_⟩, by simp [intOf]; omega⟩
          have e2 : (Mur.wTo b k).set k (acc4 b k (i + 1)) = ((Mur.wTo b k).set k (acc4 b k i)).set k (x * 256 + y.toUInt32) := by
            rw [List.set_set, acc4, HX.out, HY.out]
          rw [e2]
          exact HL.set _ _ _
        · obtain rfl : i = 4 := by omega
          go_wp2
          refine ⟨⟨k + 1, by omega, by go_num, ?_⟩, by simp [intOf]; omega⟩
          have e3 : Mur.wTo b (k + 1) = (Mur.wTo b k).set k (acc4 b k 4) := by
            rw [acc4_four]
            conv => lhs; unfold Mur.wTo
            rw [Mur.wNext, if_pos hlt]
          rw [e3]
          exact HL
    · obtain rfl : k = 16 := by omega
      go_wp2
      go_loopw [10] (fun t wr => ∃ k : Nat, 16 ≤ k ∧ k ≤ 64 ∧ t = .int .i64 k ∧ L9 w h (Mur.wTo b k) wr) (fun t _ => 64 - (intOf t).toNat)
      case atStart => exact ⟨16, by omega, by omega, rfl, HL⟩
      case round =>
        clear HL
        obtain ⟨k, hk16, hk, rfl, HL⟩ := hrel
        by_cases hlt : k < 64
        · have hl := Mur.wTo_length b k
          have cx := cell_u32s (i := k - 15) HL.2.2.2.2.2 (by omega)
          have cy := cell_u32s (i := k - 2) HL.2.2.2.2.2 (by omega)
          have c16 := cell_u32s (i := k - 16) HL.2.2.2.2.2 (by omega)
          have c7 := cell_u32s (i := k - 7) HL.2.2.2.2.2 (by omega)
          have cw := cell_u32s (i := k) HL.2.2.2.2.2 (by omega)
          have fw := free_row (i := k) HL.2.2.2.2.2
          clear hl
          go_wp2
          go_quiet (fail)
          go_wp2
          refine Mur.wp_quiet_tail 28 (by kernel_rfl) (by kernel_rfl) ?_
          simp only [List.take_succ_cons, List.take_zero, List.drop_succ_cons, List.drop_zero]
          repeat (go_big_quiet_step (exact Mur.q_of2 (turn_any _ _ (by decide))))
          refine wpQuiet_nil ?_
          rintro _ ⟨nq, rfl⟩
          go_wp2
          refine ⟨⟨k + 1, by omega, by omega, by go_num, ?_⟩, by simp [intOf]; omega⟩
          have e : Mur.wTo b (k + 1) = (Mur.wTo b k).set k ((Mur.wTo b k)[k - 16]?.getD 0 + Mur.ssig0 ((Mur.wTo b k)[k - 15]?.getD 0) + (Mur.wTo b k)[k - 7]?.getD 0 + Mur.ssig1 ((Mur.wTo b k)[k - 2]?.getD 0)) := by
            conv => lhs; unfold Mur.wTo
            rw [Mur.wNext, if_neg (by omega)]
            simp only [List.getD_eq_getElem?_getD]
          rw [e]
          exact HL.set _ _ _
        · obtain rfl : k = 64 := by omega
          obtain ⟨W, hW⟩ : ∃ W, W = Mur.wTo b 64 := ⟨_, rfl⟩
          rw [← hW] at HL
          have HW := Go.Lib.hid hW; clear hW
          have hsz := HL.2.1
          have HS := Go.Lib.hid hsz; clear hsz
          go_wp2_with (first
            | (refine wpList_load_row rfl 60 (.tmp 3) rfl w.heap.size rfl 60 (stCells h) (0, 0) _ HL.2.2.1 Tryd.underlying60 rfl (by kernel_rfl) ?_)
            | (refine Mur.wpList_put rfl 60 (.tmp 13) (.tmp 84) rfl wr.heap.size (stCells h) rfl rfl 60 (u32s (List.replicate 8 0)) (Mur.hp_a1 _ _) (by kernel_rfl) (by kernel_rfl) (stCells_all _) ?_; intro w3 hp3 hw3; have hp3' := Go.Lib.hid hp3; clear hp3))
          have HL3 : L10 w h W h w3 := by
            rw [HS.out] at hp3' hw3
            exact ⟨((HL.1.alloc (by rw [HS.out]; omega) _).trans (hw3.below (by omega))), hw3.hp (by omega) (Mur.hp_old HL.2.2.1 _), hw3.hp (by omega) (Mur.hp_old HL.2.2.2.1 _), hw3.hp (by omega) (Mur.hp_old HL.2.2.2.2.1 _), hw3.hp (by omega) (Mur.hp_old HL.2.2.2.2.2 _), hp3'.out⟩
          clear HL hp3' hw3
          rw [HS.out]
          go_loopw [14] (fun t wr => ∃ (k : Nat) (s : St), k ≤ 64 ∧ t = .int .i64 k ∧ Hid (s = Mur.roundsTo W h k) ∧ L10 w h W s wr) (fun t _ => 64 - (intOf t).toNat)
          case atStart => exact ⟨0, h, by omega, rfl, Go.Lib.hid rfl, HL3⟩
          case round =>
            clear HL3
            obtain ⟨k, s, hk, rfl, hs, HL⟩ := hrel
            by_cases hlt : k < 64
            · have hl : s.toList.length = 8 := rfl
              have HP : wr.heap[w.heap.size + 1 + 1 + 1 + 1]? = some (.cells (u32s s.toList) 60 (0, 0)) := HL.2.2.2.2.2
              have d0 := cell_u32s (i := 0) HP (by omega)
              have d1 := cell_u32s (i := 1) HP (by omega)
              have d2 := cell_u32s (i := 2) HP (by omega)
              have d3 := cell_u32s (i := 3) HP (by omega)
              have d4 := cell_u32s (i := 4) HP (by omega)
              have d5 := cell_u32s (i := 5) HP (by omega)
              have d6 := cell_u32s (i := 6) HP (by omega)
              have d7 := cell_u32s (i := 7) HP (by omega)
              simp only [St.toList, List.getD_cons_zero, List.getD_cons_succ] at d0 d1 d2 d3 d4 d5 d6 d7
              have cw := cell_u32s (i := k) HL.2.2.2.2.1 (by rw [HW.out, Mur.wTo_length]; omega)
              have ck := cell_u32s (i := k) HL.2.2.1 (by rw [Mur.K_length]; omega)
              obtain ⟨kk, hkk⟩ : ∃ y, Mur.K.getD k 0 = y := ⟨_, rfl⟩
              obtain ⟨ww, hww⟩ : ∃ y, W.getD k 0 = y := ⟨_, rfl⟩
              rw [hkk] at ck
              rw [hww] at cw
              have HKK := Go.Lib.hid hkk; clear hkk
              have HWW := Go.Lib.hid hww; clear hww
              clear hl HP
              go_wp2
              go_quiet (fail)
              go_wp2
              go_quiet (exact Mur.q_of2 (turn_any _ _ (by decide)))
              go_wp2
              go_quiet (exact Mur.q_of2 (turn_any _ _ (by decide)))
              have fr := HL.2.2.2.2.2
              clear d7
              go_wp2_with (first
                | (refine Mur.wpList_put rfl 60 (.tmp 13) (.tmp 166) rfl (w.heap.size + 1 + 1 + 1 + 1) (stCells (Mur.stepSt s kk ww)) rfl rfl 60 (stCells s) fr (by kernel_rfl) (by kernel_rfl) (stCells_all _) ?_; intro w5 hp5 hw5; have hp5' := Go.Lib.hid hp5; clear hp5))
              refine ⟨⟨k + 1, Mur.stepSt s kk ww, by omega, by go_num, ?_, ?_⟩, by simp [intOf]; omega⟩
              · exact Go.Lib.hid (by rw [hs.out, ← HKK.out, ← HWW.out]; rfl)
              · exact (HL.drewN _).wrote hw5 hp5'.out
            · obtain rfl : k = 64 := by omega
              go_wp2
              go_loopw [19] (fun t wr => ∃ k : Nat, k ≤ 8 ∧ t = .int .i64 k ∧ L11 w h (sAdd s.toList h.toList k) wr) (fun t _ => 8 - (intOf t).toNat)
              case atStart => exact ⟨0, by omega, rfl, HL.2.1, HL.1, HL.2.2.2.1, HL.2.2.2.2.2⟩
              case round =>
                clear HL
                obtain ⟨k, hk, rfl, HL⟩ := hrel
                by_cases hlt : k < 8
                · have hl : h.toList.length = 8 := rfl
                  have hl2 : (sAdd s.toList h.toList k).length = 8 := sAdd_length _ _ _
                  have HP : wr.heap[w.heap.size]? = some (.cells (u32s h.toList) 60 (0, 0)) := HL.1
                  have c1 := cell_u32s (i := k) HP (by omega)
                  have c2 := cell_u32s (i := k) HL.2.2.2 (by omega)
                  have fk := free_row (i := k) HL.2.2.2
                  obtain ⟨x, hx⟩ : ∃ y, h.toList.getD k 0 = y := ⟨_, rfl⟩
                  obtain ⟨z, hz⟩ : ∃ y, (sAdd s.toList h.toList k).getD k 0 = y := ⟨_, rfl⟩
                  rw [hx] at c1
                  rw [hz] at c2
                  have HX := Go.Lib.hid hx; clear hx
                  have HZ := Go.Lib.hid hz; clear hz
                  clear HP hl hl2
                  go_wp2
                  refine Mur.wp_quiet_tail 9 (by kernel_rfl) (by kernel_rfl) ?_
                  simp only [List.take_succ_cons, List.take_zero, List.drop_succ_cons, List.drop_zero]
                  repeat (go_big_quiet_step (fail))
                  refine wpQuiet_nil ?_
                  rintro _ ⟨nq, rfl⟩
                  go_wp2
                  refine ⟨⟨k + 1, by omega, by go_num, ?_⟩, by simp [intOf]; omega⟩
                  have e : sAdd s.toList h.toList (k + 1) = (sAdd s.toList h.toList k).set k (z + x) := by rw [← HX.out, ← HZ.out]; rfl
                  rw [e]
                  exact HL.put _ _ _
                · obtain rfl : k = 8 := by omega
                  obtain ⟨T, hT⟩ : ∃ T : St, T = Mur.addSt h s := ⟨_, rfl⟩
                  have eT : u32s (sAdd s.toList h.toList 8) = stCells T := by
                    rw [hT]
                    show u32s (sAdd s.toList h.toList 8) = u32s (Mur.addSt h s).toList
                    congr 1
                    simp [Mur.addSt, St.toList, sAdd, UInt32.add_comm]
                  have HT := Go.Lib.hid hT; clear hT
                  have HR := HL.2.2.2
                  rw [eT] at HR
                  clear eT
                  go_wp2_with (first
                    | (refine wpList_load_row rfl 60 (.tmp 13) rfl (w.heap.size + 1 + 1 + 1 + 1) rfl 60 (stCells T) (0, 0) _ HR Tryd.underlying60 rfl (by kernel_rfl) ?_)
                    | (refine Mur.wpList_put rfl 60 (.tmp 6) (.tmp 180) rfl (w.heap.size + 1 + 1) (stCells T) rfl rfl 60 (u32s (List.replicate 8 0)) HL.2.2.1 (by kernel_rfl) (by kernel_rfl) (stCells_all T) ?_; intro w5 hp5 hw5; have hp5' := Go.Lib.hid hp5; clear hp5))
                  refine bodyPost_ret (v := .agg (stCells T)) (results_cell_row rfl _ _ (w.heap.size + 1 + 1) 60 (stCells T) (0, 0) _ rfl hp5'.out Tryd.underlying60 rfl (by kernel_rfl)) rfl ⟨T, ?_, rfl, HL.2.1.trans (hw5.below (by omega))⟩
                  exact Go.Lib.hid (by rw [HT.out, hs.out, HW.out]; rfl)
end Go.Proofs.YtljfjjofhclhiaaDoor
