/- What the row rests on, part 4. -/
import Derived.Laws.Tables
import Derived.Test.YtgbadghjnpbiaaaGreatDoorProg
import Derived.Lib.MakeNoZero
import Derived.Lib.Bytealg
import Derived.Laws.Externs
import Derived.Test.YtgbadghjnpbiaaaGreatDoorRR2
import Derived.Test.YtgbadghjnpbiaaaGreatDoorRR3
namespace Go.Proofs.YtgbadghjnpbiaaaGreatDoor
open Go.RowKit
open Mur (St w32 u32s cell_u32s free_row set_u32s)
def L9 (w : World) (h : St) (ws : List UInt32) (wr : World) : Prop :=
 Below w.heap.size w wr ∧ wr.heap.size = w.heap.size + 4 ∧ wr.heap[w.heap.size]? = some (.cells (stCells h) 101 (0, 0)) ∧ wr.heap[w.heap.size + 1]? = some (.cells (u32s Mur.K) 102 (0, 0)) ∧
 wr.heap[w.heap.size + 1 + 1]? = some (.cells (u32s (List.replicate 8 0)) 101 (0, 0)) ∧ wr.heap[w.heap.size + 1 + 1 + 1]? = some (.cells (u32s ws) 102 (0, 0))
theorem L9.set {w wr : World} {h : St} {ws : List UInt32} (H : L9 w h ws wr) (n k : Nat) (x : UInt32) : L9 w h (ws.set k x) ((wr.drewN n).setCell ⟨w.heap.size + 1 + 1 + 1, k, none⟩ (.int .u32 (w32 x))) := by
 obtain ⟨h0, h1, h2, h3, h4, h5⟩ := H
 exact ⟨(Mur.below_drewN h0 n).setCell (by simp; omega) _, by simpa using h1, Mur.hp_set_ne (Mur.hp_drewN h2 n) _ _ _ (by omega), Mur.hp_set_ne (Mur.hp_drewN h3 n) _ _ _ (by omega), Mur.hp_set_ne (Mur.hp_drewN h4 n) _ _ _ (by omega), set_u32s (Mur.hp_drewN h5 n) x⟩
def acc4 (b : List UInt8) (t : Nat) : Nat → UInt32
 | 0 => 0
 | i + 1 => acc4 b t i * 256 + (b.getD (4 * t + i) 0).toUInt32
theorem be32_acc (a b c d : UInt8) : (((((0 : UInt32) * 256 + a.toUInt32) * 256 + b.toUInt32) * 256 + c.toUInt32) * 256 + d.toUInt32) = Mur.be32 a b c d := by
 have ha := a.toNat_lt
 have hb := b.toNat_lt
 have hc := c.toNat_lt
 have hd := d.toNat_lt
 apply UInt32.toNat_inj.1
 unfold Mur.be32
 rw [UInt32.toNat_or, UInt32.toNat_or, UInt32.toNat_or, UInt32.toNat_shiftLeft, UInt32.toNat_shiftLeft, UInt32.toNat_shiftLeft]
 simp only [UInt32.toNat_add, UInt32.toNat_mul, UInt8.toNat_toUInt32]
 have e24 : a.toNat <<< ((24 : UInt32).toNat % 32) % 2 ^ 32 = a.toNat <<< 24 := by
  show a.toNat <<< 24 % 4294967296 = a.toNat <<< 24
  rw [Nat.shiftLeft_eq]; omega
 have e16 : b.toNat <<< ((16 : UInt32).toNat % 32) % 2 ^ 32 = b.toNat <<< 16 := by
  show b.toNat <<< 16 % 4294967296 = b.toNat <<< 16
  rw [Nat.shiftLeft_eq]; omega
 have e8 : c.toNat <<< ((8 : UInt32).toNat % 32) % 2 ^ 32 = c.toNat <<< 8 := by
  show c.toNat <<< 8 % 4294967296 = c.toNat <<< 8
  rw [Nat.shiftLeft_eq]; omega
 rw [e24, e16, e8]
 have o1 : a.toNat <<< 24 ||| b.toNat <<< 16 = (a.toNat <<< 8 + b.toNat) <<< 16 := by
  rw [Nat.shiftLeft_add_eq_or_of_lt (show b.toNat < 2 ^ 8 by omega), Nat.shiftLeft_or_distrib, ← Nat.shiftLeft_add]
 have o2 : (a.toNat <<< 8 + b.toNat) <<< 16 ||| c.toNat <<< 8 = ((a.toNat <<< 8 + b.toNat) <<< 8 + c.toNat) <<< 8 := by
  rw [Nat.shiftLeft_add_eq_or_of_lt (show c.toNat < 2 ^ 8 by omega) (a.toNat <<< 8 + b.toNat), Nat.shiftLeft_or_distrib, ← Nat.shiftLeft_add]
 rw [o1, o2, ← Nat.shiftLeft_add_eq_or_of_lt (show d.toNat < 2 ^ 8 by omega)]
 simp only [Nat.shiftLeft_eq]
 have z : (0 : UInt32).toNat = 0 := rfl
 have t : (256 : UInt32).toNat = 256 := rfl
 rw [z, t]
 omega
theorem acc4_four (b : List UInt8) (t : Nat) : acc4 b t 4 = Mur.wordAt b t := by
 rw [Mur.wordAt, ← be32_acc]
 rfl
theorem hp_a4' (w : World) (A B C D : Obj) : ((((w.alloc A).alloc B).alloc C).alloc D).heap[w.heap.size + 1 + 1 + 1]? = some D := by
 have h := Mur.hp_a3 (w.alloc A) B C D
 rwa [World.size_alloc] at h
theorem wTo_zero (b : List UInt8) (n t : Nat) (h : n ≤ t) : (Mur.wTo b n).getD t 0 = 0 := by
 induction n with
 | zero =>
  simp only [Mur.wTo, List.getD_eq_getElem?_getD, List.getElem?_replicate]
  split <;> rfl
 | succ n ih =>
  rw [Mur.wTo]
  simp only [List.getD_eq_getElem?_getD]
  rw [List.getElem?_set_ne (by omega), ← List.getD_eq_getElem?_getD, ih (by omega)]
theorem set_zero (b : List UInt8) (t : Nat) (h : t < 64) : (Mur.wTo b t).set t 0 = Mur.wTo b t := by
 have hl := Mur.wTo_length b t
 have hz := wTo_zero b t t (Nat.le_refl _)
 rw [List.getD_eq_getElem?_getD, List.getElem?_eq_getElem (by omega)] at hz
 have hz' : (Mur.wTo b t)[t]'(by omega) = 0 := hz
 conv => lhs; rw [← hz', List.set_getElem_self]
theorem wrap_mul256 (a : UInt32) : IntKind.u32.wrap (w32 a * (256 : Int)) = w32 (a * 256) := by
 rw [IntKind.wrap_u32, w32, w32, UInt32.toNat_mul]
 have t : (256 : UInt32).toNat = 256 := rfl
 rw [t]
 omega
theorem bits_not_u32' (a : UInt32) : bits .xor .u32 4294967295 (w32 a) = w32 (~~~a) := Mur.bits_not_u32 a
attribute [local go_sem] Mur.wrap_u32_u8 wrap_mul256 Mur.shr3 Mur.shr10 Mur.bits_or_u32 Mur.bits_and_u32 Mur.bits_xor_u32 Mur.bits_not_u32 bits_not_u32' Mur.wrap_add_u32 Mur.wrap_not_u32
def L10 (w : World) (h : St) (ws : List UInt32) (s : St) (wr : World) : Prop :=
 Below w.heap.size w wr ∧ wr.heap[w.heap.size]? = some (.cells (stCells h) 101 (0, 0)) ∧ wr.heap[w.heap.size + 1]? = some (.cells (u32s Mur.K) 102 (0, 0)) ∧
 wr.heap[w.heap.size + 1 + 1]? = some (.cells (u32s (List.replicate 8 0)) 101 (0, 0)) ∧ wr.heap[w.heap.size + 1 + 1 + 1]? = some (.cells (u32s ws) 102 (0, 0)) ∧
 wr.heap[w.heap.size + 1 + 1 + 1 + 1]? = some (.cells (stCells s) 101 (0, 0))
theorem L10.drewN {w wr : World} {h s : St} {ws : List UInt32} (H : L10 w h ws s wr) (n : Nat) : L10 w h ws s (wr.drewN n) := ⟨Mur.below_drewN H.1 n, H.2.1, H.2.2.1, H.2.2.2.1, H.2.2.2.2.1, H.2.2.2.2.2⟩
theorem L10.wrote {w wr w1 : World} {h s t : St} {ws : List UInt32} (H : L10 w h ws s wr) (hw : Mur.Wrote (w.heap.size + 1 + 1 + 1 + 1) wr w1) (hp : w1.heap[w.heap.size + 1 + 1 + 1 + 1]? = some (.cells (stCells t) 101 (0, 0))) : L10 w h ws t w1 :=
 ⟨H.1.trans (hw.below (by omega)), hw.hp (by omega) H.2.1, hw.hp (by omega) H.2.2.1, hw.hp (by omega) H.2.2.2.1, hw.hp (by omega) H.2.2.2.2.1, hp⟩
def L11 (w : World) (h : St) (s : List UInt32) (wr : World) : Prop :=
 wr.heap[w.heap.size]? = some (.cells (stCells h) 101 (0, 0)) ∧ Below w.heap.size w wr ∧
 wr.heap[w.heap.size + 1 + 1]? = some (.cells (u32s (List.replicate 8 0)) 101 (0, 0)) ∧ wr.heap[w.heap.size + 1 + 1 + 1 + 1]? = some (.cells (u32s s) 101 (0, 0))
theorem L11.put {w wr : World} {h : St} {s : List UInt32} (H : L11 w h s wr) (n k : Nat) (x : UInt32) : L11 w h (s.set k x) ((wr.drewN n).setCell ⟨w.heap.size + 1 + 1 + 1 + 1, k, none⟩ (.int .u32 (w32 x))) := by
 obtain ⟨h0, h1, h2, h3⟩ := H
 exact ⟨Mur.hp_set_ne (Mur.hp_drewN h0 n) _ _ _ (by omega), (Mur.below_drewN h1 n).setCell (by simp; omega) _, Mur.hp_set_ne (Mur.hp_drewN h2 n) _ _ _ (by omega), set_u32s (Mur.hp_drewN h3 n) x⟩
set_option maxRecDepth 100000
set_option maxHeartbeats 4000000
theorem rblock_any (h : St) (b : List UInt8) (g off n c : Nat) (w : World) (hb : ∀ j, j < 64 → w.cell? ⟨g, off + j, none⟩ = some (.int .u8 ((b.getD j 0).toNat : Int))) (hn : 64 ≤ n) (hnc : n ≤ 140737488351232) (hg : g < w.heap.size) :
  Calls Tryz.prog 107 #[.agg (stCells h), .agg (u32s Mur.K), .slice (some ⟨g, off, none⟩) n c] w
   fun e w' => ∃ t, Hid (t = Mur.block h b) ∧ e = .returned (.agg (stCells t)) ∧ Below w.heap.size w w' := by
 have HB := Go.Lib.hid hb; clear hb
 go_enter Tryz.func107, Tryz.ntmps107
 go_wp2
 go_loopw [8] (fun t wr => ∃ k : Nat, k ≤ 16 ∧ t = .int .i64 k ∧ L9 w h (Mur.wTo b k) wr) (fun t _ => 16 - (intOf t).toNat)
 case atStart =>
  refine ⟨0, by omega, rfl, (((Below.refl _ _).alloc (Nat.le_refl _) _).alloc (by simp) _).alloc (by simp; omega) _ |>.alloc (by simp; omega) _, by simp, ?_, ?_, ?_, ?_⟩
  ·exact Mur.hp_old (Mur.hp_old (Mur.hp_old (Mur.hp_a1 _ _) _) _) _
  ·exact Mur.hp_old (Mur.hp_old (Mur.hp_a2 _ _ _) _) _
  ·exact Mur.hp_old ((Mur.hp_a3 _ _ _ _).trans rfl) _
  ·exact (hp_a4' _ _ _ _ _).trans rfl
 case round =>
  obtain ⟨k, hk, rfl, HL⟩ := hrel
  by_cases hlt : k < 16
  ·go_wp2
   go_loopw [9] (fun iv wq => ∃ i : Nat, i ≤ 4 ∧ iv = .int .i64 i ∧ L9 w h ((Mur.wTo b k).set k (acc4 b k i)) wq) (fun iv _ => 4 - (intOf iv).toNat)
   case atStart => exact ⟨0, by omega, rfl, by rw [acc4, set_zero b k (by omega)]; exact HL⟩
   case round =>
    clear HL
    obtain ⟨i, hi, rfl, HL⟩ := hrel
    by_cases hlt2 : i < 4
    ·have hl := Mur.wTo_length b k
     have hcell : wr.cell? ⟨g, off + (4 * k + i), none⟩ = some (.int .u8 ((b.getD (4 * k + i) 0).toNat : Int)) := (HL.1.cell (p := ⟨g, off + (4 * k + i), none⟩) hg).trans (HB.out _ (by omega))
     have cw := cell_u32s (i := k) HL.2.2.2.2.2 (by rw [List.length_set]; omega)
     have e1 : ((Mur.wTo b k).set k (acc4 b k i)).getD k 0 = acc4 b k i := by
      rw [List.getD_eq_getElem?_getD, List.getElem?_set_self (by omega)]
      rfl
     rw [e1] at cw
     obtain ⟨x, hx⟩ : ∃ x, acc4 b k i = x := ⟨_, rfl⟩
     obtain ⟨y, hy⟩ : ∃ y, b.getD (4 * k + i) 0 = y := ⟨_, rfl⟩
     rw [hx] at cw
     rw [hy] at hcell
     have HX := Go.Lib.hid hx; clear hx
     have HY := Go.Lib.hid hy; clear hy
     have fw := free_row (i := k) HL.2.2.2.2.2
     clear hl e1
     go_wp2
     refine Mur.wp_quiet_tail 14 (by kernel_rfl) (by kernel_rfl) ?_
     simp only [List.take_succ_cons, List.take_zero, List.drop_succ_cons, List.drop_zero]
     repeat (go_big_quiet_step (fail))
     refine wpQuiet_nil ?_
     rintro _ ⟨nq, rfl⟩
     go_wp2
     refine ⟨⟨i + 1, by omega, by go_num, ?_⟩, by simp [intOf]; omega⟩
     have e2 : (Mur.wTo b k).set k (acc4 b k (i + 1)) = ((Mur.wTo b k).set k (acc4 b k i)).set k (x * 256 + y.toUInt32) := by
      rw [List.set_set, acc4, HX.out, HY.out]
     rw [e2]
     exact HL.set _ _ _
    ·obtain rfl : i = 4 := by omega
     go_wp2
     refine ⟨⟨k + 1, by omega, by go_num, ?_⟩, by simp [intOf]; omega⟩
     have e3 : Mur.wTo b (k + 1) = (Mur.wTo b k).set k (acc4 b k 4) := by
      rw [acc4_four]
      conv => lhs; unfold Mur.wTo
      rw [Mur.wNext, if_pos hlt]
     rw [e3]
     exact HL
  ·obtain rfl : k = 16 := by omega
   go_wp2
   go_loopw [10] (fun t wr => ∃ k : Nat, 16 ≤ k ∧ k ≤ 64 ∧ t = .int .i64 k ∧ L9 w h (Mur.wTo b k) wr) (fun t _ => 64 - (intOf t).toNat)
   case atStart => exact ⟨16, by omega, by omega, rfl, HL⟩
   case round =>
    clear HL
    obtain ⟨k, hk16, hk, rfl, HL⟩ := hrel
    by_cases hlt : k < 64
    ·have hl := Mur.wTo_length b k
     have cx := cell_u32s (i := k - 15) HL.2.2.2.2.2 (by omega)
     have cy := cell_u32s (i := k - 2) HL.2.2.2.2.2 (by omega)
     have c16 := cell_u32s (i := k - 16) HL.2.2.2.2.2 (by omega)
     have c7 := cell_u32s (i := k - 7) HL.2.2.2.2.2 (by omega)
     have cw := cell_u32s (i := k) HL.2.2.2.2.2 (by omega)
     have fw := free_row (i := k) HL.2.2.2.2.2
     clear hl
     go_wp2
     go_quiet (fail)
     go_wp2
     refine Mur.wp_quiet_tail 28 (by kernel_rfl) (by kernel_rfl) ?_
     simp only [List.take_succ_cons, List.take_zero, List.drop_succ_cons, List.drop_zero]
     repeat (go_big_quiet_step (exact Mur.q_of2 (turn_any _ _ (by decide))))
     refine wpQuiet_nil ?_
     rintro _ ⟨nq, rfl⟩
     go_wp2
     refine ⟨⟨k + 1, by omega, by omega, by go_num, ?_⟩, by simp [intOf]; omega⟩
     have e : Mur.wTo b (k + 1) = (Mur.wTo b k).set k ((Mur.wTo b k)[k - 16]?.getD 0 + Mur.ssig0 ((Mur.wTo b k)[k - 15]?.getD 0) + (Mur.wTo b k)[k - 7]?.getD 0 + Mur.ssig1 ((Mur.wTo b k)[k - 2]?.getD 0)) := by
      conv => lhs; unfold Mur.wTo
      rw [Mur.wNext, if_neg (by omega)]
      simp only [List.getD_eq_getElem?_getD]
     rw [e]
     exact HL.set _ _ _
    ·obtain rfl : k = 64 := by omega
     obtain ⟨W, hW⟩ : ∃ W, W = Mur.wTo b 64 := ⟨_, rfl⟩
     rw [← hW] at HL
     have HW := Go.Lib.hid hW; clear hW
     have hsz := HL.2.1
     have HS := Go.Lib.hid hsz; clear hsz
     go_wp2_with (first
      | (refine wpList_load_row rfl 101 (.tmp 3) rfl w.heap.size rfl 101 (stCells h) (0, 0) _ HL.2.2.1 Tryz.underlying101 rfl (by kernel_rfl) ?_)
      | (refine Mur.wpList_put rfl 101 (.tmp 13) (.tmp 84) rfl wr.heap.size (stCells h) rfl rfl 101 (u32s (List.replicate 8 0)) (Mur.hp_a1 _ _) (by kernel_rfl) (by kernel_rfl) (stCells_all _) ?_; intro w3 hp3 hw3; have hp3' := Go.Lib.hid hp3; clear hp3))
     have HL3 : L10 w h W h w3 := by
      rw [HS.out] at hp3' hw3
      exact ⟨((HL.1.alloc (by rw [HS.out]; omega) _).trans (hw3.below (by omega))), hw3.hp (by omega) (Mur.hp_old HL.2.2.1 _), hw3.hp (by omega) (Mur.hp_old HL.2.2.2.1 _), hw3.hp (by omega) (Mur.hp_old HL.2.2.2.2.1 _), hw3.hp (by omega) (Mur.hp_old HL.2.2.2.2.2 _), hp3'.out⟩
     clear HL hp3' hw3
     rw [HS.out]
     go_loopw [14] (fun t wr => ∃ (k : Nat) (s : St), k ≤ 64 ∧ t = .int .i64 k ∧ Hid (s = Mur.roundsTo W h k) ∧ L10 w h W s wr) (fun t _ => 64 - (intOf t).toNat)
     case atStart => exact ⟨0, h, by omega, rfl, Go.Lib.hid rfl, HL3⟩
     case round =>
      clear HL3
      obtain ⟨k, s, hk, rfl, hs, HL⟩ := hrel
      by_cases hlt : k < 64
      ·have hl : s.toList.length = 8 := rfl
       have HP : wr.heap[w.heap.size + 1 + 1 + 1 + 1]? = some (.cells (u32s s.toList) 101 (0, 0)) := HL.2.2.2.2.2
       have d0 := cell_u32s (i := 0) HP (by omega)
       have d1 := cell_u32s (i := 1) HP (by omega)
       have d2 := cell_u32s (i := 2) HP (by omega)
       have d3 := cell_u32s (i := 3) HP (by omega)
       have d4 := cell_u32s (i := 4) HP (by omega)
       have d5 := cell_u32s (i := 5) HP (by omega)
       have d6 := cell_u32s (i := 6) HP (by omega)
       have d7 := cell_u32s (i := 7) HP (by omega)
       simp only [St.toList, List.getD_cons_zero, List.getD_cons_succ] at d0 d1 d2 d3 d4 d5 d6 d7
       have cw := cell_u32s (i := k) HL.2.2.2.2.1 (by rw [HW.out, Mur.wTo_length]; omega)
       have ck := cell_u32s (i := k) HL.2.2.1 (by rw [Mur.K_length]; omega)
       obtain ⟨kk, hkk⟩ : ∃ y, Mur.K.getD k 0 = y := ⟨_, rfl⟩
       obtain ⟨ww, hww⟩ : ∃ y, W.getD k 0 = y := ⟨_, rfl⟩
       rw [hkk] at ck
       rw [hww] at cw
       have HKK := Go.Lib.hid hkk; clear hkk
       have HWW := Go.Lib.hid hww; clear hww
       clear hl HP
       go_wp2
       go_quiet (fail)
       go_wp2
       go_quiet (exact Mur.q_of2 (turn_any _ _ (by decide)))
       go_wp2
       go_quiet (exact Mur.q_of2 (turn_any _ _ (by decide)))
       have fr := HL.2.2.2.2.2
       clear d7
       go_wp2_with (first
        | (refine Mur.wpList_put rfl 101 (.tmp 13) (.tmp 166) rfl (w.heap.size + 1 + 1 + 1 + 1) (stCells (Mur.stepSt s kk ww)) rfl rfl 101 (stCells s) fr (by kernel_rfl) (by kernel_rfl) (stCells_all _) ?_; intro w5 hp5 hw5; have hp5' := Go.Lib.hid hp5; clear hp5))
       refine ⟨⟨k + 1, Mur.stepSt s kk ww, by omega, by go_num, ?_, ?_⟩, by simp [intOf]; omega⟩
       ·exact Go.Lib.hid (by rw [hs.out, ← HKK.out, ← HWW.out]; rfl)
       ·exact (HL.drewN _).wrote hw5 hp5'.out
      ·obtain rfl : k = 64 := by omega
       go_wp2
       go_loopw [19] (fun t wr => ∃ k : Nat, k ≤ 8 ∧ t = .int .i64 k ∧ L11 w h (sAdd s.toList h.toList k) wr) (fun t _ => 8 - (intOf t).toNat)
       case atStart => exact ⟨0, by omega, rfl, HL.2.1, HL.1, HL.2.2.2.1, HL.2.2.2.2.2⟩
       case round =>
        clear HL
        obtain ⟨k, hk, rfl, HL⟩ := hrel
        by_cases hlt : k < 8
        ·have hl : h.toList.length = 8 := rfl
         have hl2 : (sAdd s.toList h.toList k).length = 8 := sAdd_length _ _ _
         have HP : wr.heap[w.heap.size]? = some (.cells (u32s h.toList) 101 (0, 0)) := HL.1
         have c1 := cell_u32s (i := k) HP (by omega)
         have c2 := cell_u32s (i := k) HL.2.2.2 (by omega)
         have fk := free_row (i := k) HL.2.2.2
         obtain ⟨x, hx⟩ : ∃ y, h.toList.getD k 0 = y := ⟨_, rfl⟩
         obtain ⟨z, hz⟩ : ∃ y, (sAdd s.toList h.toList k).getD k 0 = y := ⟨_, rfl⟩
         rw [hx] at c1
         rw [hz] at c2
         have HX := Go.Lib.hid hx; clear hx
         have HZ := Go.Lib.hid hz; clear hz
         clear HP hl hl2
         go_wp2
         refine Mur.wp_quiet_tail 9 (by kernel_rfl) (by kernel_rfl) ?_
         simp only [List.take_succ_cons, List.take_zero, List.drop_succ_cons, List.drop_zero]
         repeat (go_big_quiet_step (fail))
         refine wpQuiet_nil ?_
         rintro _ ⟨nq, rfl⟩
         go_wp2
         refine ⟨⟨k + 1, by omega, by go_num, ?_⟩, by simp [intOf]; omega⟩
         have e : sAdd s.toList h.toList (k + 1) = (sAdd s.toList h.toList k).set k (z + x) := by rw [← HX.out, ← HZ.out]; rfl
         rw [e]
         exact HL.put _ _ _
        ·obtain rfl : k = 8 := by omega
         obtain ⟨T, hT⟩ : ∃ T : St, T = Mur.addSt h s := ⟨_, rfl⟩
         have eT : u32s (sAdd s.toList h.toList 8) = stCells T := by
          rw [hT]
          show u32s (sAdd s.toList h.toList 8) = u32s (Mur.addSt h s).toList
          congr 1
          simp [Mur.addSt, St.toList, sAdd, UInt32.add_comm]
         have HT := Go.Lib.hid hT; clear hT
         have HR := HL.2.2.2
         rw [eT] at HR
         clear eT
         go_wp2_with (first
          | (refine wpList_load_row rfl 101 (.tmp 13) rfl (w.heap.size + 1 + 1 + 1 + 1) rfl 101 (stCells T) (0, 0) _ HR Tryz.underlying101 rfl (by kernel_rfl) ?_)
          | (refine Mur.wpList_put rfl 101 (.tmp 6) (.tmp 180) rfl (w.heap.size + 1 + 1) (stCells T) rfl rfl 101 (u32s (List.replicate 8 0)) HL.2.2.1 (by kernel_rfl) (by kernel_rfl) (stCells_all T) ?_; intro w5 hp5 hw5; have hp5' := Go.Lib.hid hp5; clear hp5))
         refine bodyPost_ret (v := .agg (stCells T)) (results_cell_row rfl _ _ (w.heap.size + 1 + 1) 101 (stCells T) (0, 0) _ rfl hp5'.out Tryz.underlying101 rfl (by kernel_rfl)) rfl ⟨T, ?_, rfl, HL.2.1.trans (hw5.below (by omega))⟩
         exact Go.Lib.hid (by rw [HT.out, hs.out, HW.out]; rfl)
end Go.Proofs.YtgbadghjnpbiaaaGreatDoor
namespace Go.Proofs.YtgbadghjnpbiaaaGreatDoor
open Go.RowKit
open Mur (St w32 u32s cell_u32s free_row set_u32s b8s dgV Byt cutA)
theorem padded_eq (b : List UInt8) : Mur.padded b = b ++ [128] ++ List.replicate (Mur.padZeros b.length) 0 ++ lenBytes b.length := rfl
set_option maxRecDepth 100000
set_option maxHeartbeats 4000000
theorem padded_any (b : List UInt8) (A : Option Addr) (n c : Nat) (w : World) (hb : Byt w A n b) (_hnc : n ≤ c) (hA : A = none → c = 0) (hn : n ≤ 140737488351232) :
  Calls Tryz.prog 106 #[.slice A n c] w fun e w' => ∃ v M T, Hid (T = Mur.padded b) ∧ e = .returned v ∧ w'.ownsRow w.heap.size 5 1 v M (b8s T) ∧ Below w.heap.size w w' := by
 have HB := Go.Lib.hid hb; clear hb
 have HA := Go.Lib.hid hA; clear hA
 go_enter Tryz.func106, Tryz.ntmps106
 go_wp2_with (first
  | (at_builtin; refine Mur.wpList_append_byt (w0 := w) w.heap.size rfl (.tmp 6) (.tmp 7) 22 5 rfl Tryz.underlying22 (by kernel_rfl) (.slice (some ⟨w.heap.size, 0, none⟩) 0 0) 0 [] b A n c rfl rfl (World.ownsRow_made w #[] 0 (Nat.le_refl _) (by unfold maxLen; omega) rfl) (HB.out.below ((Below.refl _ _).alloc (Nat.le_refl _) _)) HA.out ((Below.refl _ _).alloc (Nat.le_refl _) _) (by simp) (by omega) ?_; intro v1 w1 HO1 HB1 hg1 hat1)
  | (at_builtin; refine Mur.wpList_append_byt (w0 := w) w.heap.size rfl (.tmp 9) (.tmp 10) 22 5 rfl Tryz.underlying22 (by kernel_rfl) v1 (0 + n) ([] ++ b) [128] (some ⟨w1.heap.size, 0, none⟩) 1 1 rfl rfl (HO1.alloc _) (Mur.Byt_box _ _ _) (fun h => by cases h) (HB1.alloc HB1.size _) (by have := HB1.size; simp; omega) (by omega) ?_; intro v2 w2 HO2 HB2 hg2 hat2))
 rw [List.nil_append, Nat.zero_add] at HO2
 go_loopw [3] (fun v wr => ∃ (z N : Nat) (T : List UInt8), z ≤ Mur.padZeros n ∧ lenOf v = N ∧ Hid (N = n + 1 + z) ∧ N ≤ n + 65 ∧ Hid (T = b ++ [128] ++ List.replicate z 0) ∧ wr.ownsRow w.heap.size 5 1 v N (b8s T) ∧ Below w.heap.size w wr)
  (fun v _ => n + 100 - lenOf v)
 case atStart =>
  refine ⟨0, n + 1, _, by omega, ?_, rfl, by omega, Go.Lib.hid (by simp), HO2, HB2⟩
  obtain ⟨_, _, rfl, _⟩ := Mur.own_byt HO2
  rfl
 case round =>
  clear HO1 HO2 HB1 HB2
  obtain ⟨z, N, T, hz, hv, HN2, hN2, HT, HO, HL⟩ := hrel
  obtain ⟨A3, c3, rfl, hc3, hm3, HB3⟩ := Mur.own_byt HO
  clear hv
  have hz64 := (Mur.padZeros_spec n).2
  have hsz := HL.size
  by_cases hlt : z < Mur.padZeros n
  ·have t1 : ((((N : Nat) : Int) % 64) != 56) = true := by
    have := (Mur.padZeros_spec n).1; have := HN2.out; rw [bne_iff_ne]; omega
   have hN3 : N ≤ n + 64 := by have := HN2.out; omega
   go_wp2_with (at_builtin; refine Mur.wpList_append_byt (w0 := wr) w.heap.size rfl (.tmp 16) (.tmp 17) 22 5 rfl Tryz.underlying22 (by kernel_rfl) (.slice A3 N c3) N T [0] (some ⟨wr.heap.size, 0, none⟩) 1 1 rfl rfl (HO.alloc _) (Mur.Byt_box _ _ _) (fun h => by cases h) ((Below.refl _ _).alloc hsz _) (by simp; omega) (by omega) ?_; intro v4 w4 HO4 HB4 hg4 hat4)
   obtain ⟨A5, c5, rfl, _⟩ := Mur.own_byt HO4
   refine ⟨⟨z + 1, N + 1, T ++ [0], by omega, rfl, Go.Lib.hid (by have := HN2.out; omega), by omega, Go.Lib.hid ?_, HO4, HL.trans HB4⟩, by simp [lenOf]; omega⟩
   rw [HT.out, List.replicate_succ']
   simp
  ·have hz' : Hid (z = Mur.padZeros n) := Go.Lib.hid (by omega)
   have t1 : ((((N : Nat) : Int) % 64) != 56) = false := by
    have := (Mur.padZeros_spec n).1; have := HN2.out; have := hz'.out; rw [bne_eq_false_iff_eq]; omega
   have T0 : Hid (T = b ++ [128] ++ List.replicate (Mur.padZeros n) 0) := Go.Lib.hid (by rw [HT.out, hz'.out])
   clear HT HN2 hz'
   go_wp2
   go_loopw [3, 5] (fun v i wr => ∃ (k M : Nat) (T' : List UInt8) (iv : Int), k ≤ 8 ∧ i = .int .i64 iv ∧ Hid (iv = 7 - (k : Int)) ∧ lenOf v = M ∧ Hid (M = N + k) ∧ M ≤ n + 73 ∧ Hid (T' = T ++ (lenBytes n).take k) ∧ wr.ownsRow w.heap.size 5 1 v M (b8s T') ∧ Below w.heap.size w wr)
    (fun _ i _ => (intOf i + 8).toNat)
   case atStart => exact ⟨0, N, T, 7, by omega, rfl, Go.Lib.hid (by omega), rfl, rfl, by omega, Go.Lib.hid (by simp), HO, HL⟩
   case round =>
    clear HO HL HB3
    obtain ⟨k, M, T', iv, hk, rfl, hiv, hv, HM2, hM2, HT, HO, HL⟩ := hrel
    obtain ⟨A3, c3, rfl, hc3, hm3, HB3⟩ := Mur.own_byt HO
    clear hv
    have hsz := HL.size
    by_cases hlt : k < 8
    ·obtain rfl : iv = 7 - (k : Int) := hiv.out
     have hM3 : M ≤ n + 72 := by have := HM2.out; omega
     obtain ⟨x, hx, hX⟩ : ∃ x : UInt8, Hid (x = Mur.byteBE (8 * n) (56 - 8 * k)) ∧ (n : Int) * 8 / 2 ^ (8 * (7 - k)) % 256 = (x.toNat : Int) := ⟨_, rfl, by rw [show 8 * (7 - k) = 56 - 8 * k by omega]; exact byte_shape n _⟩
     go_wp2_with (at_builtin; refine Mur.wpList_append_byt (w0 := wr) w.heap.size rfl (.tmp 27) (.tmp 34) 22 5 rfl Tryz.underlying22 (by kernel_rfl) (.slice A3 M c3) M T' [x] (some ⟨wr.heap.size, 0, none⟩) 1 1 rfl rfl (HO.alloc _) (Mur.Byt_box _ _ _) (fun h => by cases h) ((Below.refl _ _).alloc hsz _) (by simp; omega) (by omega) ?_; intro v4 w4 HO4 HB4 hg4 hat4)
     obtain ⟨A5, c5, rfl, _⟩ := Mur.own_byt HO4
     refine ⟨⟨k + 1, M + 1, T' ++ [x], _, by omega, rfl, Go.Lib.hid (by omega), rfl, Go.Lib.hid (by have := HM2.out; omega), by omega, Go.Lib.hid ?_, HO4, HL.trans HB4⟩, by simp [intOf]; omega⟩
     rw [HT.out, hx.out, lenBytes_take n k hlt]
     simp
    ·obtain rfl : k = 8 := by omega
     have hivn : iv < 0 := by have := hiv.out; omega
     go_wp2
     refine bodyPost_ret (v := .slice A3 M c3) (by kernel_rfl) rfl ⟨_, M, T', Go.Lib.hid ?_, rfl, HO, HL⟩
     rw [HT.out, T0.out, padded_eq, HB.out.1]
     rfl
end Go.Proofs.YtgbadghjnpbiaaaGreatDoor
namespace Mur
open Go Go.RowKit
section
variable {P : Program} {ops : Array Oper} {rest : List Oper} {o : Oper} {a : Act} {C : World → Prop} {Q : Act → Prop}
theorem wpQuiet_call (hgd : o.guard = none) (f : FuncId) (xs : Array Operand) (ts : Array TypeId) (ho : o.op = .call { callee := .value (.func f), args := xs, argTypes := ts })
  (v : Value) (vals : Array Value) (hv : xs.map a.eval = vals) (hrun : ∀ w, (callFunc f vals).run P w = .ok (.enter f vals) w) (hc : ∀ w, C w → Calls P f vals w fun e w' => e = .returned v ∧ C w')
  (h : wpQuiet P ops C Q rest (a.put o.dst v)) : wpQuiet P ops C Q (o :: rest) a := by
 obtain ⟨dst, op, ty, pos, after, guard⟩ := o
 simp only at ho hgd
 subst ho hgd
 refine BigFrame.wpQuiet_want (by simp [Region.wanted]) fun K hK => ⟨v, fun w hw => ?_, hK _ h⟩
 unfold Oper.quietAt
 rw [execOp_call_go, hv, show #[] ++ vals ++ #[] = vals by simp, hrun]
 exact ⟨rfl, hc w hw⟩
theorem wpQuiet_cut (hgd : o.guard = none) (t : TypeId) (x y z : Operand) (ho : o.op = .slice t x (some y) (some z) none) (e : TypeId) (ht : P.underlying t = some (.slice e)) (hsz : (P.info? e).map (·.size) = some 1)
  (A : Option Addr) (n c l m : Nat) (hx : a.eval x = .slice A n c) (hy : a.eval y = .int .i64 (l : Int)) (hz : a.eval z = .int .i64 (m : Int)) (hl : l ≤ m) (hm : m ≤ n) (hnc : n ≤ c)
  (h : wpQuiet P ops C Q rest (a.put o.dst (.slice (cutA A c l) (m - l) (c - l)))) : wpQuiet P ops C Q (o :: rest) a := by
 refine BigFrame.wpQuiet_want (by simp [Region.wanted, hgd]) fun K hK => ⟨_, fun w hw => ?_, hK _ h⟩
 unfold Oper.quietAt execOp
 simp only [ho, hx, hy, hz, Option.map_some, Option.map_none, Sem.run_bind, run_cut t e ht hsz A n c l m hl hm hnc, Result.andThen_ok, Sem.run_pure]
 exact ⟨rfl, rfl⟩
end
end Mur
namespace Go.Proofs.YtgbadghjnpbiaaaGreatDoor
open Go.RowKit
open Mur (St w32 u32s cell_u32s free_row set_u32s b8s dgV Byt cutA)
def L12 (w : World) (s : St) (wr : World) : Prop :=
 Below w.heap.size w wr ∧ w.heap.size + 3 ≤ wr.heap.size ∧ wr.heap[w.heap.size]? = some (.cells (stCells s) 101 (0, 0)) ∧ wr.heap[w.heap.size + 1]? = some (.cells (u32s Mur.K) 102 (0, 0)) ∧
 wr.heap[w.heap.size + 1 + 1]? = some (.cells (b8s (List.replicate 32 0)).toArray 28 (0, 0))
def L13 (w : World) (s : St) (D : Nat) (d : List UInt8) (wr : World) : Prop :=
 Below w.heap.size w wr ∧ wr.heap[w.heap.size]? = some (.cells (stCells s) 101 (0, 0)) ∧ wr.heap[w.heap.size + 1 + 1]? = some (.cells (b8s (List.replicate 32 0)).toArray 28 (0, 0)) ∧
 wr.heap[D]? = some (.cells (b8s d).toArray 28 (0, 0))
theorem L13.setD {w wr : World} {s : St} {D : Nat} {d : List UInt8} (h : L13 w s D d wr) (hD : w.heap.size + 3 ≤ D) (k : Nat) (x : UInt8) : L13 w s D (d.set k x) (wr.setCell ⟨D, k, none⟩ (.int .u8 (x.toNat : Int))) :=
 ⟨h.1.setCell (by simp; omega) _, Mur.hp_set_ne h.2.1 _ _ _ (by omega), Mur.hp_set_ne h.2.2.1 _ _ _ (by omega), Mur.set_b8s h.2.2.2 x⟩
set_option maxRecDepth 100000
set_option maxHeartbeats 4000000
theorem Rsum_any (b : List UInt8) (A : Option Addr) (n c : Nat) (w : World) (hb : Byt w A n b) (hnc : n ≤ c) (hA : A = none → c = 0) (hn : n ≤ 140737488351232) :
  Calls Tryz.prog 92 #[.agg (stCells Mur.H0), .agg (u32s Mur.K), .slice A n c] w fun e w' => ∃ d, Hid (d = Mur.sha b) ∧ d.length = 32 ∧ e = .returned (.agg (b8s d).toArray) ∧ Below w.heap.size w w' := by
 have HB := Go.Lib.hid hb; clear hb
 have HA := Go.Lib.hid hA; clear hA
 obtain ⟨s0, hs0⟩ : ∃ s, s = Mur.H0 := ⟨_, rfl⟩
 rw [← hs0]
 have HS0 := Go.Lib.hid hs0; clear hs0
 go_enter Tryz.func92, Tryz.ntmps92
 have hb3 : ∀ x y z, Below w.heap.size w (((w.alloc x).alloc y).alloc z) := fun x y z => (((Below.refl _ _).alloc (Nat.le_refl _) _).alloc (by simp) _).alloc (by simp; omega) _
 have HB3 := Go.Lib.hid hb3; clear hb3
 go_wp2_with (first
  | (go_at_call 106; refine (padded_any b A n c _ (HB.out.below (HB3.out _ _ _)) hnc HA.out hn).mono ?_; rintro e w2 ⟨v, M, T, HT, rfl, HO, hB2⟩))
 have hbase : ∀ x y z, (((w.alloc x).alloc y).alloc z).heap.size = w.heap.size + 3 := fun x y z => by simp
 have HSZ := Go.Lib.hid hbase; clear hbase
 rw [HSZ.out] at HO
 have hL : L12 w s0 w2 := ⟨(HB3.out _ _ _).trans (hB2.mono (by rw [HSZ.out]; omega)), by have := hB2.size; rw [HSZ.out] at this; exact this, Mur.hp_below hB2 (Mur.hp_old (Mur.hp_old (Mur.hp_a1 _ _) _) _), Mur.hp_below hB2 (Mur.hp_old (Mur.hp_a2 _ _ _) _), Mur.hp_below hB2 ((Mur.hp_a3 _ _ _ _).trans rfl)⟩
 obtain ⟨A3, c3, rfl, hc3, hm3, HB4⟩ := Mur.own_byt HO
 have HlA : Hid (∀ a, A3 = some a → w.heap.size + 3 ≤ a.block ∧ a.block < w2.heap.size) := Go.Lib.hid (fun a ha => by subst ha; exact HO.lt _ rfl)
 clear HO
 have HTl : Hid (T.length = M) := HB4.1
 have HTm : Hid (T.length % 64 = 0) := Go.Lib.hid (by rw [HT.out]; exact Mur.padded_mod b)
 have hM : M ≤ 140737488355328 := by
  have h1 := HTl.out
  have h2 := Mur.padded_length b
  have h3 := (Mur.padZeros_spec b.length).2
  have h4 : b.length = n := HB.out.1
  rw [HT.out] at h1
  omega
 have hzK : (u32s Mur.K).size = 64 := by simp [u32s, Mur.K_length]
 have HZK := Go.Lib.hid hzK; clear hzK
 go_loopw [8] (fun t wr => ∃ (j : Nat) (s : St), t = .int .i64 ((64 * j : Nat) : Int) ∧ 64 * j ≤ M ∧ Hid (s = Mur.blocks s0 T j) ∧ L12 w s wr ∧ Hid (∀ k, w.heap.size + 3 ≤ k → k < w2.heap.size → wr.heap[k]? = w2.heap[k]?) ∧ w2.heap.size ≤ wr.heap.size)
  (fun t _ => M - (intOf t).toNat)
 case atStart => exact ⟨0, s0, rfl, by omega, rfl, hL, fun _ _ _ => rfl, Nat.le_refl _⟩
 case round =>
  clear hL hB2
  obtain ⟨j, s, rfl, hjM, hs, HL, HK, hsz⟩ := hrel
  by_cases hlt : 64 * j < M
  ·have h64 : 64 * j + 64 ≤ M := by have := HTl.out; have := HTm.out; omega
   obtain ⟨g, off, hA3, hcell⟩ := (HB4.cut (c := c3) (64 * j) (64 * j + 64) (by omega) h64 hc3).2 (by omega)
   have hcell' : ∀ i, i < 64 → w2.cell? ⟨g, off + i, none⟩ = some (.int .u8 ((((T.take (64 * j + 64)).drop (64 * j)).getD i 0).toNat : Int)) := fun i hi => hcell i (by omega)
   clear hcell
   obtain ⟨L, hLL⟩ : ∃ L, L = (T.take (64 * j + 64)).drop (64 * j) := ⟨_, rfl⟩
   rw [← hLL] at hcell'
   have HLL := Go.Lib.hid hLL; clear hLL
   have HC := Go.Lib.hid hcell'; clear hcell'
   obtain ⟨a3, rfl⟩ : ∃ a, A3 = some a := by
    rcases A3 with _ | a
    ·simp [cutA] at hA3
    ·exact ⟨a, rfl⟩
   have hgb : g = a3.block := (Mur.cutA_block hA3)
   obtain ⟨hg1, hg2⟩ := HlA.out _ rfl
   have hg3 : g < wr.heap.size := by rw [hgb]; exact Nat.lt_of_lt_of_le hg2 hsz
   have HCr : Hid (∀ i, i < 64 → wr.cell? ⟨g, off + i, none⟩ = some (.int .u8 ((L.getD i 0).toNat : Int))) := fun i hi => (World.cell?_of_block (w := w2) (a := ⟨g, off + i, none⟩) (HK.out g (by rw [hgb]; exact hg1) (by rw [hgb]; exact hg2))).trans (HC.out i hi)
   have HA3 := Go.Lib.hid hA3; clear hA3
   obtain ⟨t, ht⟩ : ∃ t, Hid (t = Mur.block s L) := ⟨_, rfl⟩
   go_wp2
   refine Mur.wp_quiet_tail_class (C := fun w' => Below wr.heap.size wr w') 8 (by kernel_rfl) (by kernel_rfl) ⟨rfl, rfl, rfl, Nat.le_refl _, fun _ _ => rfl⟩ ?_
   simp only [List.take_succ_cons, List.take_zero, List.drop_succ_cons, List.drop_zero]
   refine Mur.wpQuiet_load_row rfl 101 (.tmp 3) rfl w.heap.size rfl 101 (stCells s) (0, 0) _ (fun w' h => (h.block _ (by have := HL.2.1; omega)).trans HL.2.2.1) Tryz.underlying101 rfl (by kernel_rfl) ?_
   refine Mur.wpQuiet_load_row rfl 102 (.tmp 4) rfl (w.heap.size + 1) rfl 102 (u32s Mur.K) (0, 0) _ (fun w' h => (h.block _ (by have := HL.2.1; omega)).trans HL.2.2.2.1) Tryz.underlying102 rfl (by rw [HZK.out]; kernel_rfl) ?_
   simp only [Act.put, List.setIfInBounds_toArray, List.set_cons_succ, List.set_cons_zero]
   go_big_quiet_step (fail)
   go_big_quiet_step (fail)
   go_big_quiet_step (fail)
   go_big_quiet_step (exact fun _ => rfl)
   refine Mur.wpQuiet_cut rfl 22 (.tmp 21) (.tmp 22) (.tmp 24) rfl 5 Tryz.underlying22 (by kernel_rfl) (some a3) M c3 (64 * j) (64 * j + 64) rfl (by go_num) (by go_num) (by omega) h64 hc3 ?_
   rw [HA3.out, show 64 * j + 64 - 64 * j = 64 by omega]
   simp only [Act.put, List.setIfInBounds_toArray, List.set_cons_succ, List.set_cons_zero]
   refine Mur.wpQuiet_call rfl 107 _ _ rfl (.agg (stCells t)) #[.agg (stCells s), .agg (u32s Mur.K), .slice (some ⟨g, off, none⟩) 64 (c3 - 64 * j)] (by simp [Act.eval]) (fun w => by kernel_rfl) ?_ ?_
   ·intro w' hw'
    refine (rblock_any s L g off 64 (c3 - 64 * j) w' (fun i hi => (hw'.cell (p := ⟨g, off + i, none⟩) hg3).trans (HCr.out i hi)) (by omega) (by omega) (by have := hw'.size; omega)).mono ?_
    rintro e w3 ⟨t', ht', rfl, hB3⟩
    refine ⟨?_, Mur.below_then hw' hw'.size hB3⟩
    rw [ht'.out, ht.out]
   ·refine wpQuiet_nil ?_
    intro w3 hw3
    have HL3 : L12 w s w3 := ⟨HL.1.trans (hw3.mono (by have := HL.2.1; omega)), Nat.le_trans HL.2.1 hw3.size, (hw3.block _ (by have := HL.2.1; omega)).trans HL.2.2.1, (hw3.block _ (by have := HL.2.1; omega)).trans HL.2.2.2.1, (hw3.block _ (by have := HL.2.1; omega)).trans HL.2.2.2.2⟩
    go_wp2_with (refine Mur.wpList_put rfl 101 (.tmp 3) (.tmp 26) rfl w.heap.size (stCells t) rfl rfl 101 (stCells s) HL3.2.2.1 (by kernel_rfl) (by kernel_rfl) (stCells_all t) ?_; intro w5 hp5 hw5; have hp5' := Go.Lib.hid hp5; clear hp5)
    refine ⟨⟨j + 1, t, by go_num, by omega, Go.Lib.hid ?_, ⟨HL3.1.trans (hw5.below (Nat.le_refl _)), by rw [hw5.size]; exact HL3.2.1, hp5'.out, hw5.hp (by omega) HL3.2.2.2.1, hw5.hp (by omega) HL3.2.2.2.2⟩, Go.Lib.hid (fun k h1 h2 => ?_), ?_⟩, by simp [intOf]; omega⟩
    ·rw [ht.out, hs.out, HLL.out, Mur.blocks_last, List.drop_take, show 64 * j + 64 - 64 * j = 64 by omega]
    ·rw [hw5.block k (by omega), hw3.block k (by omega)]
     exact HK.out k h1 h2
    ·rw [hw5.size]
     exact Nat.le_trans hsz hw3.size
  ·have HD : Hid (Mur.dig s = Mur.sha b) := Go.Lib.hid (by
    rw [hs.out, HS0.out, Mur.sha, ← HT.out]
    have h1 := HTl.out
    rw [show T.length / 64 = j by omega])
   have hsz3 := HL.2.1
   clear HTl HTm HK hs HB4 HlA
   go_wp2
   obtain ⟨wt, rfl⟩ : ∃ wt : World, wt = wr := ⟨_, rfl⟩
   go_loopw [10] (fun t wq => ∃ i : Nat, i ≤ 32 ∧ t = .int .i64 i ∧ L13 w s wt.heap.size (digTo s i) wq) (fun t _ => 32 - (intOf t).toNat)
   case atStart => exact ⟨0, by omega, rfl, ⟨HL.1.alloc (by omega) _, Mur.hp_old HL.2.2.1 _, Mur.hp_old HL.2.2.2.2 _, (Mur.hp_a1 _ _).trans rfl⟩⟩
   case round =>
    obtain ⟨q, hq, rfl, HL⟩ := hrel
    by_cases hlt : q < 32
    ·have cs := cell_u32s (l := s.toList) (i := q / 4) HL.2.1 (by show q / 4 < 8; omega)
     have cd := Mur.cell_b8s (i := q) HL.2.2.2 (by rw [digTo_length]; exact hlt)
     have fd := free_row (i := q) HL.2.2.2
     go_wp2
     refine ⟨⟨q + 1, by omega, by go_num, ?_⟩, by simp [intOf]; omega⟩
     rw [dig_shape, digTo_succ s q hlt]
     exact HL.setD hsz3 _ _
    ·obtain rfl : q = 32 := by omega
     have hz : (b8s (digTo s 32)).toArray.size = 32 := by rw [List.size_toArray, Mur.b8s_length, digTo_length]
     have hz0 : (b8s (List.replicate 32 0)).toArray.size = 32 := by rw [List.size_toArray, Mur.b8s_length, List.length_replicate]
     have hd : digTo s 32 = Mur.dig s := digTo_all s
     have HZ := Go.Lib.hid hz; clear hz
     have HZ0 := Go.Lib.hid hz0; clear hz0
     have HDD := Go.Lib.hid hd; clear hd
     go_wp2_with (first
      | (refine wpList_load_row rfl 28 (.tmp 9) rfl wt.heap.size rfl 28 (b8s (digTo s 32)).toArray (0, 0) _ HL.2.2.2 Tryz.underlying28 rfl (by rw [HZ.out]; kernel_rfl) ?_)
      | (refine Mur.wpList_put rfl 28 (.tmp 6) (.tmp 44) rfl (w.heap.size + 1 + 1) (b8s (digTo s 32)).toArray rfl rfl 28 (b8s (List.replicate 32 0)).toArray HL.2.2.1 (by rw [HZ.out]; kernel_rfl) (by rw [HZ.out, HZ0.out]) (Mur.b8s_all _) ?_; intro w5 hp5 hw5; have hp5' := Go.Lib.hid hp5; clear hp5))
     refine bodyPost_ret (v := .agg (b8s (digTo s 32)).toArray) (results_cell_row rfl _ _ (w.heap.size + 1 + 1) 28 (b8s (digTo s 32)).toArray (0, 0) _ rfl hp5'.out Tryz.underlying28 rfl (by rw [HZ.out]; kernel_rfl)) rfl ⟨digTo s 32, Go.Lib.hid (HDD.out.trans HD.out), digTo_length s 32, rfl, HL.1.trans (hw5.below (by omega))⟩
end Go.Proofs.YtgbadghjnpbiaaaGreatDoor
namespace Mur
open Go Go.RowKit Wk
section
variable {P : Program} {w : World} {a : Act} {o : Oper}
theorem storeArr (ty : TypeId) (x y : Operand) (ho : o.op = .store ty x y) (g : Nat) (hx : a.eval x = .pointer (some ⟨g, 0, none⟩)) (vs : Array Value) (n : Nat) (hv : vs.size = n) (h1 : vs.all (·.oneCell') = true) (hy : a.eval y = .agg vs) (hi : (P.info? ty).map (·.size) = some n)
  (t : TypeId) (cs : Array Value) (hg : w.heap[g]? = some (.cells cs t (0, 0))) (hn : cs.size = n) :
  ∃ w', (execOp a.eval o).run P w = .ok .skip w' ∧ w'.heap[g]? = some (.cells vs t (0, 0)) ∧ Chg [g] w w' := by
 obtain ⟨vl⟩ := vs
 have hvl : vl.length = n := hv
 have h1' : ∀ v ∈ vl, v.oneCell' = true := fun v hm => Array.all_eq_true_iff_forall_mem.1 h1 v (by simpa using hm)
 obtain ⟨w', q1, q2, q3⟩ := storeR (P := P) ty x y ho g 0 hx vl hy (by rw [hi, hvl]) h1' t cs.toList (by simpa using hg) (by rw [hvl, Array.length_toList, hn]; omega)
 refine ⟨w', q1, ?_, q3⟩
 rw [q2]
 congr 2
 have hdrop : cs.toList.drop (0 + vl.length) = [] := List.drop_of_length_le (by rw [hvl, Array.length_toList, hn]; omega)
 unfold splice
 rw [hdrop]
 simp
theorem loadArr (ty : TypeId) (x : Operand) (ho : o.op = .load ty x) (d : TypeDesc) (hu : P.underlying ty = some d) (hd : d.isRow = true) (g : Nat) (hx : a.eval x = .pointer (some ⟨g, 0, none⟩)) (cs : Array Value) (n : Nat) (hn : cs.size = n)
  (hi : (P.info? ty).map (·.size) = some n) (t : TypeId) (fr : Nat × Nat) (hg : w.heap[g]? = some (.cells cs t fr)) : (execOp a.eval o).run P w = .ok (.value (.agg cs)) w := by
 obtain ⟨l⟩ := cs
 exact loadR ty x ho d hu hd g 0 hx l (by rw [hi]; exact congrArg some hn.symm) (range_row hg)
end
theorem rkey_small {s : List UInt8} {n z : Nat} (h : s.length = n) (hn : n ≤ 64) (hz : n + z = 64) : s ++ List.replicate z 0 = hkey s := by
 have h1 : hkey0 s = s := if_neg (by omega)
 unfold hkey
 rw [h1, h, show 64 - n = z by omega]
theorem rkey_big {s d : List UInt8} {z : Nat} (h : 64 < s.length) (hd : d = sha s) (hz : 32 + z = 64) : d ++ List.replicate z 0 = hkey s := by
 have h1 : hkey0 s = sha s := if_pos h
 unfold hkey
 rw [h1, hd, sha_len, show 64 - 32 = z by omega]
theorem Own8.some {w : World} {base e n c : Nat} {A : Option Addr} {l : List UInt8} (h : Own8 w base e A n c l) (hn : 0 < n) : ∃ g, A = some ⟨g, 0, none⟩ ∧ base ≤ g ∧ g < w.heap.size := by
 obtain ⟨g, rfl, _⟩ := own_some h.own hn
 exact ⟨g, rfl, h.at_ g 0 rfl⟩
theorem rep_snoc {l : List UInt8} {z : Nat} : (l ++ List.replicate z 0) ++ [0] = l ++ List.replicate (z + 1) 0 := by rw [List.append_assoc, ← List.replicate_succ']
end Mur
namespace Go.Proofs.YtgbadghjnpbiaaaGreatDoor
open Go.RowKit
open Mur (St w32 u32s cell_u32s free_row set_u32s b8s dgV Byt cutA)
theorem words_var (w : World) : Calls Tryz.prog 66 #[] w
  fun e w' => ∃ hc kc, Hid (hc = stCells Mur.H0) ∧ Hid (kc = u32s Mur.K) ∧ e = .returned (.tuple #[.agg hc, .agg kc]) ∧ Below w.heap.size w w' :=
 (words_any w).mono fun _ _ ⟨h1, h2⟩ => ⟨_, _, rfl, rfl, h1, h2⟩
theorem Rsum_var (hc kc : Array Value) (Hh : Hid (hc = stCells Mur.H0)) (Hk : Hid (kc = u32s Mur.K)) (b : List UInt8) (A : Option Addr) (n c : Nat) (w : World) (hb : Byt w A n b) (hnc : n ≤ c) (hA : A = none → c = 0) (hn : n ≤ 140737488351232) :
  Calls Tryz.prog 92 #[.agg hc, .agg kc, .slice A n c] w fun e w' => ∃ d, Hid (d = Mur.sha b) ∧ d.length = 32 ∧ e = .returned (.agg (b8s d).toArray) ∧ Below w.heap.size w w' := by
 rw [Hh.out, Hk.out]
 exact Rsum_any b A n c w hb hnc hA hn
theorem hc_size {hc : Array Value} (h : hc = stCells Mur.H0) : hc.size = 8 ∧ hc.all (·.oneCell') = true := by subst h; exact ⟨rfl, stCells_all _⟩
theorem kc_size {kc : Array Value} (h : kc = u32s Mur.K) : kc.size = 64 ∧ kc.all (·.oneCell') = true := by subst h; exact ⟨by simp [u32s, Mur.K_length], Mur.oneCells _⟩
end Go.Proofs.YtgbadghjnpbiaaaGreatDoor
namespace Go
open Wk Mur
section
variable {P : Program} {a : Act} {o : Oper} {w : World}
theorem sB {n : Nat} (vs : Array Value) (hv : vs.size = n) (h1 : vs.all (·.oneCell') = true) {g : Nat} {t : TypeId} {cs : Array Value} (hg : w.heap[g]? = some (.cells cs t (0, 0))) (hn : cs.size = n) {ty : TypeId} {x y : Operand} (ho : o.op = .store ty x y := by exact rfl) (hx : a.eval x = .pointer (some ⟨g, 0, none⟩) := by kernel_rfl) (hy : a.eval y = .agg vs := by kernel_rfl) (hi : (P.info? ty).map (·.size) = some n := by kernel_rfl) :
  ∃ w', (execOp a.eval o).run P w = .ok .skip w' ∧ w'.heap[g]? = some (.cells vs t (0, 0)) ∧ Chg [g] w w' := storeArr ty x y ho g hx vs n hv h1 hy hi t cs hg hn
theorem lA {n g : Nat} {t : TypeId} {fr : Nat × Nat} {cs : Array Value} (hg : w.heap[g]? = some (.cells cs t fr)) (hn : cs.size = n) {ty : TypeId} {x : Operand} (ho : o.op = .load ty x := by exact rfl) (hu : (match P.underlying ty with | some d => d.isRow | none => false) = true := by kernel_rfl) (hx : a.eval x = .pointer (some ⟨g, 0, none⟩) := by kernel_rfl) (hi : (P.info? ty).map (·.size) = some n := by kernel_rfl) : (execOp a.eval o).run P w = .ok (.value (.agg cs)) w := by
 split at hu
 ·rename_i d hd
  exact loadArr ty x ho d hd hu g hx cs n hn hi t fr hg
 ·cases hu
end
end Go
namespace Mur
open Go Go.RowKit Wk
def attC (k r : List UInt8) (n : Int) (t : List UInt8) : List Value := b8s k ++ (b8s r ++ (.int .i64 n :: b8s t))
theorem own8_someq {w : World} {base e n c : Nat} {A : Option Addr} {l : List UInt8} (h : Own8 w base e A n c l) (hn : 0 < n) : ∃ g, A = some ⟨g, 0, none⟩ ∧ base ≤ g ∧ g < w.heap.size := by
 obtain ⟨g, rfl, _⟩ := own_some h.own hn
 exact ⟨g, rfl, h.at_ g 0 rfl⟩
def z32 : List UInt8 := List.replicate 32 0
section
variable {k r t : List UInt8} {n : Int}
theorem attC_length (hk : k.length = 32) (hr : r.length = 32) (ht : t.length = 32) : (attC k r n t).length = 97 := by simp [attC, b8s_length, hk, hr, ht]
theorem attC_size (hk : k.length = 32) (hr : r.length = 32) (ht : t.length = 32) : (attC k r n t).toArray.size = 97 := attC_length hk hr ht
theorem attC_one : ∀ v ∈ attC k r n t, v.oneCell' = true := by
 intro v hv
 simp only [attC, List.mem_append, List.mem_cons] at hv
 rcases hv with h | h | h | h
 ·exact b8s_one k v h
 ·exact b8s_one r v h
 ·subst h; rfl
 ·exact b8s_one t v h
theorem attC_all : (attC k r n t).toArray.all (·.oneCell') = true := Array.all_eq_true_iff_forall_mem.2 fun v hv => attC_one v (by simpa using hv)
theorem attC_zero : (attC z32 z32 0 z32).toArray = #[.int .u8 0, .int .u8 0, .int .u8 0, .int .u8 0, .int .u8 0, .int .u8 0, .int .u8 0, .int .u8 0, .int .u8 0, .int .u8 0, .int .u8 0, .int .u8 0, .int .u8 0, .int .u8 0, .int .u8 0, .int .u8 0,
 .int .u8 0, .int .u8 0, .int .u8 0, .int .u8 0, .int .u8 0, .int .u8 0, .int .u8 0, .int .u8 0, .int .u8 0, .int .u8 0, .int .u8 0, .int .u8 0, .int .u8 0, .int .u8 0, .int .u8 0, .int .u8 0,
 .int .u8 0, .int .u8 0, .int .u8 0, .int .u8 0, .int .u8 0, .int .u8 0, .int .u8 0, .int .u8 0, .int .u8 0, .int .u8 0, .int .u8 0, .int .u8 0, .int .u8 0, .int .u8 0, .int .u8 0, .int .u8 0,
 .int .u8 0, .int .u8 0, .int .u8 0, .int .u8 0, .int .u8 0, .int .u8 0, .int .u8 0, .int .u8 0, .int .u8 0, .int .u8 0, .int .u8 0, .int .u8 0, .int .u8 0, .int .u8 0, .int .u8 0, .int .u8 0, .int .i64 0,
 .int .u8 0, .int .u8 0, .int .u8 0, .int .u8 0, .int .u8 0, .int .u8 0, .int .u8 0, .int .u8 0, .int .u8 0, .int .u8 0, .int .u8 0, .int .u8 0, .int .u8 0, .int .u8 0, .int .u8 0, .int .u8 0,
 .int .u8 0, .int .u8 0, .int .u8 0, .int .u8 0, .int .u8 0, .int .u8 0, .int .u8 0, .int .u8 0, .int .u8 0, .int .u8 0, .int .u8 0, .int .u8 0, .int .u8 0, .int .u8 0, .int .u8 0, .int .u8 0] := rfl
variable {w : World} {g : Nat} {T : TypeId} {fr : Nat × Nat}
theorem att_key (h : w.heap[g]? = some (.cells (attC k r n t).toArray T fr)) : w.rangeAt g 0 (b8s k) := range_sub 0 (b8s k) h (by simp [attC])
theorem att_root (hk : k.length = 32) (h : w.heap[g]? = some (.cells (attC k r n t).toArray T fr)) : w.rangeAt g 32 (b8s r) := range_sub 32 (b8s r) h (by
 show ((b8s k ++ _).drop 32).take _ = _
 rw [List.drop_left' (by rw [b8s_length, hk])]
 simp)
theorem drop64 (hk : k.length = 32) (hr : r.length = 32) : (attC k r n t).drop 64 = .int .i64 n :: b8s t := by
 unfold attC
 rw [← List.append_assoc, List.drop_left' (by rw [List.length_append, b8s_length, b8s_length, hk, hr])]
theorem att_tag (hk : k.length = 32) (hr : r.length = 32) (h : w.heap[g]? = some (.cells (attC k r n t).toArray T fr)) : w.rangeAt g 65 (b8s t) := range_sub 65 (b8s t) h (by
 show ((attC k r n t).drop (64 + 1)).take _ = _
 rw [← List.drop_drop, drop64 hk hr]
 simp)
theorem att_len (hk : k.length = 32) (hr : r.length = 32) (h : w.heap[g]? = some (.cells (attC k r n t).toArray T fr)) : w.cell? ⟨g, 64, none⟩ = some (.int .i64 n) := by
 rw [cell_of_row _ _ _ _ _ _ h, List.getElem?_toArray]
 have := congrArg (fun l => l[0]?) (drop64 (n := n) (t := t) hk hr)
 simpa [List.getElem?_drop] using this
theorem byt_rng {off m : Nat} {l : List UInt8} (h : w.rangeAt g off (b8s l)) (hl : l.length = m) : Byt w (some ⟨g, off, none⟩) m l := ⟨hl, fun _ => ⟨g, off, rfl, fun j hj => h j _ (b8s_get l j (by omega))⟩⟩
end
theorem splice_mid {α : Type} {A B C vs : List α} {off : Nat} (hA : A.length = off) (hB : B.length = vs.length) : splice (A ++ (B ++ C)) off vs = A ++ (vs ++ C) := by
 unfold splice
 rw [List.take_left' hA, ← List.append_assoc A B C, List.drop_left' (by rw [List.length_append]; omega)]
theorem fold_splice : ∀ (vs L : List Value) (off s : Nat), off + s + vs.length ≤ L.length → (vs.zipIdx s).foldl (fun cs (c : Value × Nat) => cs.setIfInBounds (off + c.2) c.1) L.toArray = (splice L (off + s) vs).toArray
 | [], L, off, s, _ => by simp [splice]
 | v :: vs, L, off, s, h => by
  simp only [List.length_cons] at h
  rw [List.zipIdx_cons, List.foldl_cons, List.setIfInBounds_toArray, fold_splice vs (L.set (off + s) v) off (s + 1) (by simp; omega)]
  rw [← Nat.add_assoc, splice_set L (off + s) v vs (by omega)]
section
variable {P : Program} {w : World} {a : Act} {o : Oper}
theorem fill_part {place : Nat → Option (Nat × Nat)} {L vs : List Value} {v : Value} {i off size : Nat} {rest : List (Nat × Value)} {R : Option (Array Value)} (hp : place i = some (off, size)) (hv : v.cells = vs.toArray) (hs : vs.length = size) (hf : off + size ≤ L.length)
  (h : Instr.fill place (splice L off vs).toArray rest = R) : Instr.fill place L.toArray ((i, v) :: rest) = R := by
 subst hs
 unfold Instr.fill
 rw [hp]
 simp only [hv, List.size_toArray, ne_eq, not_true_eq_false, decide_false, Bool.false_or]
 rw [if_neg (by simpa using hf)]
 have := fold_splice vs L off 0 (by omega)
 rw [Nat.add_zero] at this
 rw [← h, ← this]
 congr 1
 rw [← Array.foldl_toList, Array.toList_zipIdx]
theorem run_built (t : TypeId) (parts : Array (Nat × Operand)) (ho : o.op = .build t parts) (vals : List (Nat × Value)) (hv : (parts.map fun p => (p.1, a.eval p.2)) = vals.toArray) (cells : Array Value) (hb : P.built t vals = some cells) : (execOp a.eval o).run P w = .ok (.value (.agg cells)) w := by
 have := run_build (P := P) w t vals.toArray cells (by simpa using hb)
 unfold execOp
 simp only [ho, hv, Sem.run_bind, this, Result.andThen_ok, Sem.run_pure]
theorem arr_slice_at (t e : TypeId) (x : Operand) (n : Nat) (ho : o.op = .slice t x none none none) (ht : P.underlying t = some (.array n e)) (hsz : (P.info? e).map (·.size) = some 1) (g off : Nat) (hx : a.eval x = .pointer (some ⟨g, off, none⟩)) :
  (execOp a.eval o).run P w = .ok (.value (.slice (some ⟨g, off, none⟩) n n)) w := by
 obtain ⟨i, hi, hs⟩ := Option.map_eq_some_iff.1 hsz
 have e0 : (⟨g, off, none⟩ : Addr).add 0 = ⟨g, off, none⟩ := by rw [Addr.add_mid]; rfl
 unfold execOp
 simp only [ho, hx, Option.map_none]
 simp [Instr.sliceAt, Instr.slice, Instr.sureAddr, run_underlying ht, Instr.sliceBounds, Go.sizeOf, typeInfo, hi, e0]
theorem shr64 (t ty : TypeId) (x y : Operand) (ho : o.op = .binOp .shr t x y ty) (u k : Nat) (yk : IntKind) (hx : a.eval x = .int .u64 ((u : Nat) : Int)) (hy : a.eval y = .int yk ((k : Nat) : Int)) (hk : k ≤ 64) (p : Nat) (hp : 2 ^ k = p) : (execOp a.eval o).run P w = .ok (.value (.int .u64 (((u / p : Nat)) : Int))) w := by
 subst hp
 have hb : IntKind.u64.bits = 64 := rfl
 have key : (Op.shift .shr .u64 ((u : Nat) : Int) yk ((k : Nat) : Int)).run P w = .ok (.int .u64 ((u / 2 ^ k : Nat) : Int)) w := by
  unfold Op.shift
  rw [if_neg (by omega)]
  have h1 : min ((k : Nat) : Int).toNat IntKind.u64.bits = k := by rw [hb]; simp; omega
  have h2 : Int.fdiv ((u : Nat) : Int) (2 ^ k) = ((u / 2 ^ k : Nat) : Int) := by
   rw [Int.fdiv_eq_ediv_of_nonneg _ (by exact_mod_cast Nat.zero_le _)]
   exact_mod_cast rfl
  simp only [h1, h2, Sem.run_pure]
 have hg : (eqGuard .shr t x y (.int .u64 ((u : Nat) : Int)) (.int yk ((k : Nat) : Int))).run P w = .ok () w := rfl
 have key2 : (binOp .shr t (.int .u64 ((u : Nat) : Int)) (.int yk ((k : Nat) : Int))).run P w = .ok (.int .u64 ((u / 2 ^ k : Nat) : Int)) w := key
 unfold execOp
 simp only [ho, hx, hy]
 simp only [Sem.run_bind, Sem.run_pure, hg, Result.andThen_ok, key2]
end
theorem u8_mod (u : Nat) : IntKind.u8.wrap ((u : Nat) : Int) = ((u % 256 : Nat) : Int) := by
 show ((u : Nat) : Int) % 256 = _
 omega
def u64n (n : Int) : Nat := (IntKind.u64.wrap n).toNat
def e8 (u : Nat) : List UInt8 := [UInt8.ofNat (u / 72057594037927936), UInt8.ofNat (u / 281474976710656), UInt8.ofNat (u / 1099511627776), UInt8.ofNat (u / 4294967296), UInt8.ofNat (u / 16777216), UInt8.ofNat (u / 65536), UInt8.ofNat (u / 256), UInt8.ofNat (u / 1)]
theorem e8_cells (u : Nat) : (b8s (e8 u)).toArray = #[.int .u8 ((u / 72057594037927936 % 256 : Nat) : Int), .int .u8 ((u / 281474976710656 % 256 : Nat) : Int), .int .u8 ((u / 1099511627776 % 256 : Nat) : Int), .int .u8 ((u / 4294967296 % 256 : Nat) : Int),
  .int .u8 ((u / 16777216 % 256 : Nat) : Int), .int .u8 ((u / 65536 % 256 : Nat) : Int), .int .u8 ((u / 256 % 256 : Nat) : Int), .int .u8 ((u / 1 % 256 : Nat) : Int)] := by
 have h : ∀ x : Nat, (UInt8.ofNat x).toNat = x % 256 := fun x => by simp
 simp only [e8, b8s, List.map_cons, List.map_nil, h]
theorem e8_length (u : Nat) : (e8 u).length = 8 := rfl
def body (k r : List UInt8) (n : Int) : List UInt8 := [17] ++ (k ++ (r ++ e8 (u64n n)))
def may (n : Int) : Prop := 1 ≤ n ∧ n ≤ 5000
instance (n : Int) : Decidable (may n) := by unfold may; infer_instance
end Mur
namespace Mur
open Go Go.RowKit Wk
section
variable {P : Program} {w : World} {a : Act} {o : Oper}
theorem conv_u64n (s t : TypeId) (x : Operand) (ho : o.op = .convert s t x) (hs : (P.underlying s).isSome = true) (ht : P.underlying t = some (.int .u64)) (k : IntKind) (z : Int) (hx : a.eval x = .int k z) : (execOp a.eval o).run P w = .ok (.value (.int .u64 ((u64n z : Nat) : Int))) w := by
 obtain ⟨v, w1, h, u, rfl, rfl, hu⟩ := to_u64 (P := P) (w := w) s t x ho hs ht k z hx
 rw [h]
 have : u = u64n z := by unfold u64n; omega
 rw [this]
theorem conv_u8 (s t : TypeId) (x : Operand) (ho : o.op = .convert s t x) (hs : (P.underlying s).isSome = true) (ht : P.underlying t = some (.int .u8)) (k : IntKind) (u : Nat) (hx : a.eval x = .int k ((u : Nat) : Int)) : (execOp a.eval o).run P w = .ok (.value (.int .u8 ((u % 256 : Nat) : Int))) w := by
 have hk : P.intKind t = .u8 := by simp [Program.intKind, ht]
 have key : (convert s t (.int k ((u : Nat) : Int))).run P w = .ok (.int .u8 ((u % 256 : Nat) : Int)) w := by
  have := run_convert_int (P := P) (w := w) s t k ((u : Nat) : Int) hs (by rw [ht, hk])
  rw [this, hk, u8_mod]
 unfold execOp
 simp only [ho, hx, Sem.run_bind, key, Result.andThen_ok, Sem.run_pure]
theorem quo_u64 (t ty : TypeId) (x y : Operand) (ho : o.op = .binOp .quo t x y ty) (i n : Nat) (hx : a.eval x = .int .u64 ((i : Nat) : Int)) (hy : a.eval y = .int .u64 ((n : Nat) : Int)) (hn : 0 < n) (hi : i < 18446744073709551616) :
  (execOp a.eval o).run P w = .ok (.value (.int .u64 ((i / n : Nat) : Int))) w := by
 have hne : ¬ n = 0 := by omega
 have h1 : Int.tdiv (i : Int) (n : Int) = ((i / n : Nat) : Int) := by
  rw [Int.tdiv_eq_ediv_of_nonneg (by omega)]
  exact_mod_cast rfl
 have hlt : i / n ≤ i := Nat.div_le_self i n
 have h2 : IntKind.u64.wrap ((i / n : Nat) : Int) = ((i / n : Nat) : Int) := u64_nat (by omega)
 unfold execOp
 simp only [ho, hx, hy]
 simp only [eqGuard, binOp]
 simp [Op.intDiv, hne, h1]
 first | done | exact_mod_cast h2
end
theorem u64n_lt (n : Int) : u64n n < 18446744073709551616 := by
 have h1 : IntKind.u64.wrap n = n % 18446744073709551616 := rfl
 unfold u64n
 rw [h1]
 omega
theorem own8_lit {w : World} {base e g n : Nat} {l : List UInt8} (h : w.heap[g]? = some (.cells (b8s l).toArray e (0, 0))) (hb : base ≤ g) (hn : l.length = n) (hm : n ≤ 1000) : Own8 w base e (some ⟨g, 0, none⟩) n n l :=
 own8 ⟨by rw [b8s_length, hn, Nat.mul_one], .inr ⟨g, n, _, rfl, hb, h, Nat.le_refl _, by unfold maxLen; omega, by simp [b8s_length, hn], by
  show (b8s l).take (n * 1) = _
  rw [List.take_of_length_le (by rw [b8s_length, hn]; omega)]⟩⟩
theorem e8_quo (u : Nat) : #[Value.int .u8 ((u / 256 / 256 / 256 / 256 / 256 / 256 / 256 % 256 : Nat) : Int), .int .u8 ((u / 256 / 256 / 256 / 256 / 256 / 256 % 256 : Nat) : Int), .int .u8 ((u / 256 / 256 / 256 / 256 / 256 % 256 : Nat) : Int), .int .u8 ((u / 256 / 256 / 256 / 256 % 256 : Nat) : Int),
  .int .u8 ((u / 256 / 256 / 256 % 256 : Nat) : Int), .int .u8 ((u / 256 / 256 % 256 : Nat) : Int), .int .u8 ((u / 256 % 256 : Nat) : Int), .int .u8 ((u % 256 : Nat) : Int)] = (b8s (e8 u)).toArray := by
 rw [e8_cells]
 simp only [Nat.div_div_eq_div_mul, Nat.div_one, Nat.reduceMul]
end Mur
namespace Go.Proofs.YtgbadghjnpbiaaaGreatDoor
open Mur (b8s)
theorem digT : Mur.DigT Tryz.prog 28 5 := ⟨Tryz.underlying28, Tryz.underlying5, by kernel_rfl, by kernel_rfl, by kernel_rfl, by kernel_rfl⟩
end Go.Proofs.YtgbadghjnpbiaaaGreatDoor
namespace Go.Proofs.YtgbadghjnpbiaaaGreatDoor
open Go.RowKit Wk
open Mur (b8s attC z32 DigT litOf)
set_option maxRecDepth 100000
def litsD (d : List UInt8) : List Lit := ((List.range 32).map (litOf d)).flatten
theorem litsD_length (d : List UInt8) : (litsD d).length = 32 := by
 have h : ∀ l : List Nat, ((l.map (litOf d)).flatten).length = l.length := by
  intro l
  induction l with
  | nil => rfl
  | cons x l ih => simp [litOf, ih]
 rw [litsD, h, List.length_range]
theorem keyLits_att {k r t : List UInt8} {n : Int} (hk : k.length = 32) (hr : r.length = 32) (ht : t.length = 32) (hn : (Lit.int .i64 n).wf = true) : Tryz.prog.keyLits 3 35 (attC k r n t) = some (litsD k ++ (litsD r ++ (Lit.int .i64 n :: litsD t))) := by
 have hc : Tryz.prog.cellsOf 35 = 97 := by kernel_rfl
 have c1 : Tryz.prog.cellsOf 28 = 32 := by kernel_rfl
 have c2 : Tryz.prog.cellsOf 3 = 1 := by kernel_rfl
 have e1 : ((attC k r n t).drop 0).take 32 = b8s k := by
  show (b8s k ++ _).take 32 = _
  rw [List.take_left' (by rw [Mur.b8s_length, hk])]
 have e2 : ((attC k r n t).drop 32).take 32 = b8s r := by
  show ((b8s k ++ _).drop 32).take 32 = _
  rw [List.drop_left' (by rw [Mur.b8s_length, hk]), List.take_left' (by rw [Mur.b8s_length, hr])]
 have e3 : ((attC k r n t).drop 64).take 1 = [.int .i64 n] := by rw [Mur.drop64 hk hr]; rfl
 have e4 : ((attC k r n t).drop 65).take 32 = b8s t := by
  show ((attC k r n t).drop (64 + 1)).take 32 = _
  rw [← List.drop_drop, Mur.drop64 hk hr]
  show (b8s t).take 32 = _
  rw [List.take_of_length_le (by rw [Mur.b8s_length, ht]; exact Nat.le_refl _)]
 have l1 := fun (d : List UInt8) (hd : d.length = 32) => Mur.keyLits_dig digT d hd
 have l3 : Tryz.prog.keyLits 2 3 [.int .i64 n] = some [.int .i64 n] := by
  unfold Program.keyLits
  simp only [Tryz.underlying3]
  exact if_pos ⟨trivial, hn⟩
 unfold Program.keyLits
 simp only [Tryz.underlying35]
 rw [if_pos ⟨by rw [Mur.attC_length hk hr ht, hc], by decide +kernel⟩]
 simp only [List.mapM_cons, List.mapM_nil, c1, c2, e1, e2, e3, e4, l1 _ hk, l1 _ hr, l1 _ ht, l3]
 simp [litsD]
theorem litsD_inj {d d' : List UInt8} (hd : d.length = 32) (hd' : d'.length = 32) : litsD d = litsD d' ↔ d = d' := Mur.lits_inj hd hd'
theorem att_lits {k r t k' r' t' : List UInt8} {n n' : Int} (hk : k.length = 32) (hr : r.length = 32) (ht : t.length = 32) (hk' : k'.length = 32) (hr' : r'.length = 32) (ht' : t'.length = 32) :
  litsD k ++ (litsD r ++ (Lit.int .i64 n :: litsD t)) = litsD k' ++ (litsD r' ++ (Lit.int .i64 n' :: litsD t')) ↔ k = k' ∧ r = r' ∧ n = n' ∧ t = t' := by
 constructor
 ·intro h
  have h1 := List.append_inj h (by rw [litsD_length, litsD_length])
  have h2 := List.append_inj h1.2 (by rw [litsD_length, litsD_length])
  have h3 := List.cons.inj h2.2
  exact ⟨(litsD_inj hk hk').1 h1.1, (litsD_inj hr hr').1 h2.1, by injection h3.1, (litsD_inj ht ht').1 h3.2⟩
 ·rintro ⟨rfl, rfl, rfl, rfl⟩
  rfl
theorem eql_att {k r t k' r' t' : List UInt8} {n n' : Int} (hk : k.length = 32) (hr : r.length = 32) (ht : t.length = 32) (hk' : k'.length = 32) (hr' : r'.length = 32) (ht' : t'.length = 32) (hn : (Lit.int .i64 n).wf = true) (hn' : (Lit.int .i64 n').wf = true) (w : World) :
  (Op.equalIn 10000 35 (.agg (attC k r n t).toArray) (.agg (attC k' r' n' t').toArray)).run Tryz.prog w = .ok (decide (k = k' ∧ r = r' ∧ n = n' ∧ t = t')) w := by
 have hf : ∀ {a b c : List UInt8} {m : Int}, a.length = 32 → b.length = 32 → c.length = 32 → (Value.agg (attC a b m c).toArray).formed Tryz.prog 35 = true := by
  intro a b c m h1 h2 h3
  have hc : Tryz.prog.cellsOf 35 = 97 := by kernel_rfl
  simp [Value.formed, Tryz.underlying35, hc, Mur.attC_length h1 h2 h3]
 obtain ⟨b, hb, hiff⟩ := run_equalIn_deep (P := Tryz.prog) 9997 3 35 (by kernel_rfl) w 3 3 (.agg (attC k r n t).toArray) (.agg (attC k' r' n' t').toArray) _ _ (hf hk hr ht) (hf hk' hr' ht') (keyLits_att hk hr ht hn) (keyLits_att hk' hr' ht' hn')
 rw [att_lits hk hr ht hk' hr' ht'] at hiff
 rw [show (10000 : Nat) = 9997 + 3 from rfl, hb]
 congr 1
 by_cases e : k = k' ∧ r = r' ∧ n = n' ∧ t = t'
 ·rw [decide_eq_true e]; exact hiff.2 e
 ·rw [decide_eq_false e]
  cases b
  ·rfl
  ·exact absurd (hiff.1 rfl) e
section
variable {w : World} {a : Act} {o : Oper} {k r t k' r' t' : List UInt8} {n n' : Int}
theorem quiet_att : Tryz.prog.eqGuardType Tryz.prog.depth 35 = false := by kernel_rfl
theorem run_eql_att (x y : Operand) (ty : TypeId) (ho : o.op = .binOp .eql 35 x y ty) (hk : k.length = 32) (hr : r.length = 32) (ht : t.length = 32) (hk' : k'.length = 32) (hr' : r'.length = 32) (ht' : t'.length = 32) (hn : (Lit.int .i64 n).wf = true) (hn' : (Lit.int .i64 n').wf = true)
  (hx : a.eval x = .agg (attC k r n t).toArray) (hy : a.eval y = .agg (attC k' r' n' t').toArray) : (execOp a.eval o).run Tryz.prog w = .ok (.value (.bool (decide (k = k' ∧ r = r' ∧ n = n' ∧ t = t')))) w := by
 unfold execOp
 simp only [ho, hx, hy, Sem.run_bind, run_eqGuard_agg w _ _ _ _ _ _ quiet_att, Result.andThen_ok, run_eql_struct, Sem.run_pure, eql_att hk hr ht hk' hr' ht' hn hn']
theorem run_neq_att (x y : Operand) (ty : TypeId) (ho : o.op = .binOp .neq 35 x y ty) (hk : k.length = 32) (hr : r.length = 32) (ht : t.length = 32) (hk' : k'.length = 32) (hr' : r'.length = 32) (ht' : t'.length = 32) (hn : (Lit.int .i64 n).wf = true) (hn' : (Lit.int .i64 n').wf = true)
  (hx : a.eval x = .agg (attC k r n t).toArray) (hy : a.eval y = .agg (attC k' r' n' t').toArray) : (execOp a.eval o).run Tryz.prog w = .ok (.value (.bool (!decide (k = k' ∧ r = r' ∧ n = n' ∧ t = t')))) w := by
 unfold execOp
 simp only [ho, hx, hy, Sem.run_bind, run_eqGuard_agg w _ _ _ _ _ _ quiet_att, Result.andThen_ok, run_neq_struct, Sem.run_pure, eql_att hk hr ht hk' hr' ht' hn hn']
end
theorem wf64 {n : Int} (h1 : -9223372036854775808 ≤ n) (h2 : n ≤ 9223372036854775807) : (Lit.int .i64 n).wf = true := by
 have h3 : IntKind.i64.min = -9223372036854775808 := by decide
 have h4 : IntKind.i64.max = 9223372036854775807 := by decide
 simp only [Lit.wf, h3, h4, Bool.and_eq_true, decide_eq_true_eq]
 exact ⟨h1, h2⟩
theorem results_att {fn : Func} {p u : Tmp} (h : fn.results = #[.cell p 35, .tmp u]) (tmps : Array Value) (w : World) (g : Nat) (cs : Array Value) (fr : Nat × Nat) (v : Value) (hp : tmps.getD p undef = .pointer (some ⟨g, 0, none⟩)) (hg : w.heap[g]? = some (.cells cs 35 fr)) (hs : cs.size = 97) (hv : tmps.getD u undef = v) :
  (results fn tmps).run Tryz.prog w = .ok (.tuple #[.agg cs, v]) w := by
 rw [results_cell_tmp h, hp, hv]
 have := run_loadVar_row (P := Tryz.prog) w g 35 35 cs fr _ hg Tryz.underlying35 rfl (by rw [hs]; kernel_rfl)
 simp [asAddr, this]
end Go.Proofs.YtgbadghjnpbiaaaGreatDoor
namespace Mur
open Go Go.RowKit Wk
section
variable {P : Program} {w : World} {a : Act} {o : Oper}
theorem byt_pre {A : Option Addr} {n : Nat} {l : List UInt8} (h : Byt w A n l) {k : Nat} (hk : k ≤ n) : Byt w A k (l.take k) := by
 refine ⟨by rw [List.length_take, h.1]; omega, fun hp => ?_⟩
 obtain ⟨g, off, rfl, hc⟩ := h.2 (by omega)
 refine ⟨g, off, rfl, fun j hj => ?_⟩
 rw [hc j (by omega)]
 simp [List.getD_eq_getElem?_getD, hj]
theorem byt_sub {g off n : Nat} {l : List UInt8} (h : Byt w (some ⟨g, off, none⟩) n l) (lo hi m : Nat) (h1 : lo + m = hi) (h2 : hi ≤ n) : Byt w (some ⟨g, off + lo, none⟩) m ((l.take hi).drop lo) := by
 subst h1
 have hp := byt_pre h h2
 refine ⟨by rw [List.length_drop, hp.1]; omega, fun hm => ?_⟩
 obtain ⟨g', off', e, hc⟩ := hp.2 (by omega)
 injection e with e
 injection e with e1 e2
 subst e1 e2
 refine ⟨g, off + lo, rfl, fun j hj => ?_⟩
 rw [Nat.add_assoc, hc (lo + j) (by omega)]
 simp [List.getD_eq_getElem?_getD]
theorem run_cut3 (t : TypeId) (x : Operand) (ol : Option Operand) (oh om : Operand) (ho : o.op = .slice t x ol (some oh) (some om)) (e : TypeId) (ht : P.underlying t = some (.slice e)) (hsz : (P.info? e).map (·.size) = some 1) (g off n c lo hi mx m : Nat)
  (hx : a.eval x = .slice (some ⟨g, off, none⟩) n c) (hl : ol.map a.eval = some (.int .i64 ((lo : Nat) : Int)) ∨ (ol = none ∧ lo = 0)) (hh : a.eval oh = .int .i64 ((hi : Nat) : Int)) (hm : a.eval om = .int .i64 ((mx : Nat) : Int)) (h1 : lo + m = hi) (h2 : hi = mx) (h3 : mx ≤ c) (h4 : 0 < m) :
  (execOp a.eval o).run P w = .ok (.value (.slice (some ⟨g, off + lo, none⟩) m m)) w := by
 subst h2
 obtain ⟨i, hi', hs⟩ := Option.map_eq_some_iff.1 hsz
 have hne : ¬ hi = lo := by omega
 have e1 : hi - lo = m := by omega
 have e2 : (⟨g, off, none⟩ : Addr).add lo = ⟨g, off + lo, none⟩ := Addr.add_mid g off lo
 unfold execOp
 rcases hl with hl | ⟨rfl, rfl⟩
 ·simp only [ho, hx, hl, hh, hm, Option.map_some]
  simp [Instr.sliceAt, Instr.slice, run_underlying ht, Instr.sliceBounds, Go.sizeOf, typeInfo, hi', hs, run_sliceBound w .i64 ((lo : Nat) : Int) hi _ (by omega) (by omega), run_sliceBound w .i64 ((hi : Nat) : Int) hi _ (by omega) (by omega), run_sliceBound w .i64 ((hi : Nat) : Int) c _ (by omega) (by omega), e1, hne, e2]
 ·have e3 : hi = m := by omega
  subst e3
  simp only [ho, hx, hh, hm, Option.map_some, Option.map_none]
  simp [Instr.sliceAt, Instr.slice, run_underlying ht, Instr.sliceBounds, Go.sizeOf, typeInfo, hi', run_sliceBound w .i64 ((hi : Nat) : Int) hi _ (by omega) (by omega), run_sliceBound w .i64 ((hi : Nat) : Int) c _ (by omega) (by omega), Addr.add_mid]
theorem cutA_at {g off c l : Nat} (h : l < c) : cutA (some ⟨g, off, none⟩) c l = some ⟨g, off + l, none⟩ := by
 have hne : ¬ c = l := by omega
 have hne2 : ¬ c - l = 0 := by omega
 have e2 : (⟨g, off, none⟩ : Addr).add l = ⟨g, off + l, none⟩ := Addr.add_mid g off l
 unfold cutA
 first | simp [hne, e2] | simp [hne2, e2]
theorem run_from_at (t : TypeId) (x y : Operand) (ho : o.op = .slice t x (some y) none none) (e : TypeId) (ht : P.underlying t = some (.slice e)) (hsz : (P.info? e).map (·.size) = some 1) (g off n c l m : Nat)
  (hx : a.eval x = .slice (some ⟨g, off, none⟩) n c) (hy : a.eval y = .int .i64 (l : Int)) (hl : l < n) (hnc : n ≤ c) (hm : n - l = m) : (execOp a.eval o).run P w = .ok (.value (.slice (some ⟨g, off + l, none⟩) m (c - l))) w := by
 rw [run_op_from t x y ho e ht hsz _ n c l hx hy (by omega) hnc, cutA_at (by omega), hm]
theorem copy_mid (d s : Operand) (dT sT : TypeId) (ho : o.op = .call { callee := .builtin .copy, args := #[d, s], argTypes := #[dT, sT] }) (e : TypeId) (hu : P.underlying dT = some (.slice e)) (hsz : (P.info? e).map (·.size) = some 1)
  (g off D c : Nat) (hd : a.eval d = .slice (some ⟨g, off, none⟩) D c) (A : Option Addr) (n c2 : Nat) (hs : a.eval s = .slice A n c2) (t : TypeId) (L : List Value) (r : List UInt8) (hg : w.heap[g]? = some (.cells L.toArray t (0, 0))) (hb : Byt w A n r) (hn : n ≤ D) (hp : 0 < n) (hf : off + n ≤ L.length)
  (R : List Value) (hR : splice L off (b8s r) = R) :
  ∃ v w', (execOp a.eval o).run P w = .ok (.value v) w' ∧ v = .int .i64 ((n : Nat) : Int) ∧ w'.heap[g]? = some (.cells R.toArray t (0, 0)) ∧ Chg [g] w w' := by
 subst hR
 have hrn := hb.1
 obtain ⟨g', off', rfl, hc⟩ := hb.2 hp
 have hsrc : ∀ j v, (b8s r)[j]? = some v → w.cell? ((⟨g', off', none⟩ : Addr).add j) = some v := by
  intro j v hv
  have hj : j < r.length := by
   have := (List.getElem?_eq_some_iff.1 hv).1
   simpa [b8s_length] using this
  rw [Addr.add_mid]
  rw [b8s_get r j hj] at hv
  injection hv with hv
  subst hv
  exact hc j (by omega)
 have hrun := run_copy_row (P := P) w dT sT o.type e g off D c ⟨g', off', none⟩ n c2 L.toArray t (b8s r) hu hsz hg (by rw [b8s_length, hrn]; exact (Nat.min_eq_left hn).symm) hsrc (by simp [b8s_length]; omega) (b8s_one r)
 refine ⟨.int .i64 ((n : Nat) : Int), w.setRow g (splice L off (b8s r)).toArray, ?_, rfl, setRow_heap w g _ _ t _ hg, ⟨rfl, rfl, rfl, by simp [World.setRow], fun k hk ho => setRow_other _ _ _ _ (fun h => ho.1 h)⟩⟩
 unfold execOp
 simp only [ho, resolve, invoke, builtin, Sem.run_bind, Sem.run_pure, Result.andThen_ok, List.map_toArray, List.map_cons, List.map_nil, hs, hd, hrun, goInt, b8s_length, hrn]
 congr 2
 unfold splice
 simp [b8s_length, hrn]
theorem att_sp0 {k r t x : List UInt8} {n : Int} (hk : k.length = 32) (hx : x.length = 32) : splice (attC k r n t) 0 (b8s x) = attC x r n t := splice_mid (A := []) (B := b8s k) (C := b8s r ++ (.int .i64 n :: b8s t)) (vs := b8s x) rfl (by rw [b8s_length, b8s_length, hk, hx])
theorem att_sp32 {k r t x : List UInt8} {n : Int} (hk : k.length = 32) (hr : r.length = 32) (hx : x.length = 32) : splice (attC k r n t) 32 (b8s x) = attC k x n t := splice_mid (A := b8s k) (B := b8s r) (C := .int .i64 n :: b8s t) (vs := b8s x) (by rw [b8s_length, hk]) (by rw [b8s_length, b8s_length, hr, hx])
theorem att_sp65 {k r t x : List UInt8} {n : Int} (hk : k.length = 32) (hr : r.length = 32) (ht : t.length = 32) (hx : x.length = 32) : splice (attC k r n t) 65 (b8s x) = attC k r n x := by
 have := splice_mid (A := b8s k ++ (b8s r ++ [Value.int .i64 n])) (B := b8s t) (C := []) (vs := b8s x) (off := 65) (by simp [b8s_length, hk, hr]) (by rw [b8s_length, b8s_length, hx, ht])
 simpa [attC] using this
theorem store_len (ty : TypeId) (x y : Operand) (ho : o.op = .store ty x y) (hi : (P.info? ty).map (·.size) = some 1) (g : Nat) (hx : a.eval x = .pointer (some ⟨g, 64, none⟩)) (m : Int) (hy : a.eval y = .int .i64 m)
  (T : TypeId) (k r t : List UInt8) (n : Int) (hk : k.length = 32) (hr : r.length = 32) (ht : t.length = 32) (hg : w.heap[g]? = some (.cells (attC k r n t).toArray T (0, 0))) :
  ∃ w', (execOp a.eval o).run P w = .ok .skip w' ∧ w'.heap[g]? = some (.cells (attC k r m t).toArray T (0, 0)) ∧ Chg [g] w w' := by
 obtain ⟨w', h1, h2, h3⟩ := store1 (P := P) ty x y ho hi g 64 hx _ hy rfl T _ hg (by rw [List.size_toArray, attC_length hk hr ht]; omega)
 refine ⟨w', h1, ?_, h3⟩
 rw [h2, List.setIfInBounds_toArray]
 congr 3
 unfold attC
 rw [← List.append_assoc, List.set_append_right _ _ (by rw [List.length_append, b8s_length, b8s_length, hk, hr]; omega), List.length_append, b8s_length, b8s_length, hk, hr]
 simp
theorem shl8_64 (t ty : TypeId) (x y : Operand) (ho : o.op = .binOp .shl t x y ty) (u : Nat) (yk : IntKind) (hx : a.eval x = .int .u64 ((u : Nat) : Int)) (hy : a.eval y = .int yk ((8 : Nat) : Int)) (hu : u < 72057594037927936) : (execOp a.eval o).run P w = .ok (.value (.int .u64 ((u * 256 : Nat) : Int))) w := by
 have key : (Op.shift .shl .u64 ((u : Nat) : Int) yk ((8 : Nat) : Int)).run P w = .ok (.int .u64 ((u * 256 : Nat) : Int)) w := by
  have h1 : IntKind.u64.wrap (((u : Nat) : Int) * 2 ^ 8) = ((u * 256 : Nat) : Int) := by
   have : ((u : Nat) : Int) * 2 ^ 8 = ((u * 256 : Nat) : Int) := by omega
   rw [this, u64_nat (by omega)]
  show Sem.run P (pure (Value.int .u64 (IntKind.u64.wrap (((u : Nat) : Int) * 2 ^ 8))) : Sem Value) w = _
  rw [h1]
  rfl
 have hg : (eqGuard .shl t x y (.int .u64 ((u : Nat) : Int)) (.int yk ((8 : Nat) : Int))).run P w = .ok () w := rfl
 have key2 : (binOp .shl t (.int .u64 ((u : Nat) : Int)) (.int yk ((8 : Nat) : Int))).run P w = .ok (.int .u64 ((u * 256 : Nat) : Int)) w := key
 unfold execOp
 simp only [ho, hx, hy]
 simp only [Sem.run_bind, Sem.run_pure, hg, Result.andThen_ok, key2]
theorem or_byte (u b : Nat) (hb : b < 256) : u * 256 ||| b = u * 256 + b := by
 have := Nat.two_pow_add_eq_or_of_lt (i := 8) (b := b) (by simpa using hb) u
 rw [Nat.mul_comm]
 exact this.symm
theorem or64 (t ty : TypeId) (x y : Operand) (ho : o.op = .binOp .or t x y ty) (u b : Nat) (hx : a.eval x = .int .u64 ((u * 256 : Nat) : Int)) (hy : a.eval y = .int .u64 ((b : Nat) : Int)) (hb : b < 256) (hu : u < 72057594037927936) : (execOp a.eval o).run P w = .ok (.value (.int .u64 ((u * 256 + b : Nat) : Int))) w := by
 have hbits : bits .or .u64 ((u * 256 : Nat) : Int) ((b : Nat) : Int) = ((u * 256 + b : Nat) : Int) := by
  show IntKind.u64.wrap ((BitVec.ofInt 64 ((u * 256 : Nat) : Int) ||| BitVec.ofInt 64 ((b : Nat) : Int)).toNat : Int) = _
  rw [BitVec.ofInt_natCast, BitVec.ofInt_natCast, BitVec.toNat_or, BitVec.toNat_ofNat, BitVec.toNat_ofNat, Nat.mod_eq_of_lt (by omega), Nat.mod_eq_of_lt (by omega), or_byte u b hb, u64_nat (by omega)]
 have key : (binOp .or t (.int .u64 ((u * 256 : Nat) : Int)) (.int .u64 ((b : Nat) : Int))).run P w = .ok (.int .u64 (bits .or .u64 ((u * 256 : Nat) : Int) ((b : Nat) : Int))) w := rfl
 have hg : (eqGuard .or t x y (.int .u64 ((u * 256 : Nat) : Int)) (.int .u64 ((b : Nat) : Int))).run P w = .ok () w := rfl
 rw [hbits] at key
 unfold execOp
 simp only [ho, hx, hy]
 simp only [Sem.run_bind, Sem.run_pure, hg, Result.andThen_ok, key]
end
def be8 (e : List UInt8) : Nat :=
 (((((((0 * 256 + (e.getD 0 0).toNat) * 256 + (e.getD 1 0).toNat) * 256 + (e.getD 2 0).toNat) * 256 + (e.getD 3 0).toNat) * 256 + (e.getD 4 0).toNat) * 256 + (e.getD 5 0).toNat) * 256 + (e.getD 6 0).toNat) * 256 + (e.getD 7 0).toNat
end Mur
namespace Mur
open Go
theorem may_u64 {n : Int} (h : may n) : u64n n < 5001 ∧ ((u64n n : Nat) : Int) = n := by
 have h1 : IntKind.u64.wrap n = n % 18446744073709551616 := rfl
 unfold may at h
 unfold u64n
 rw [h1]
 omega
end Mur
namespace Mur
open Go Go.RowKit Wk
open Go.Lib (compareBytes)
section
variable {P : Program} {w : World} {a : Act} {o : Oper}
theorem ext_run {w1 : World} (f : FuncId) (xs : List Operand) (ts : Array TypeId) (vals : List Value) (ho : o.op = .call { callee := .value (.func f), args := xs.toArray, argTypes := ts }) (hv : xs.map a.eval = vals) {v : Value} (h : (callFunc f vals.toArray).run P w = .ok (.value v) w1) : (execOp a.eval o).run P w = .ok (.value v) w1 := by
 obtain ⟨dst, op, ty, pos, after, guard⟩ := o
 simp only at ho
 subst ho
 rw [execOp_call_go, List.map_toArray, hv, show #[] ++ vals.toArray ++ #[] = vals.toArray by simp, h]
theorem run_nz {f : FuncId} {fn : Func} (ps : Array TypeId) (t e : TypeId) (hf : P.funcs[f]? = some fn) (hname : (fn.name == "runtime.NumGoroutine") = false) (hb : fn.body.isNone = true) (hn : Extern.findNext fn = none) (he : Extern.find fn = some (Extern.BytealgMakeNoZero.makeNoZero ps #[t]))
  (ht : P.underlying t = some (.slice e)) (x : Operand) (ts : Array TypeId) (ho : o.op = .call { callee := .value (.func f), args := #[x], argTypes := ts }) (n : Nat) (hx : a.eval x = .int .i64 ((n : Nat) : Int)) (hm : n ≤ 1000) :
  ∃ v1 w1, (execOp a.eval o).run P w = .ok (.value v1) w1 ∧ ∃ cs : List Value, v1 = .slice (some ⟨w.heap.size, 0, none⟩) n cs.length ∧ w1.heap[w.heap.size]? = some (.cells cs.toArray e (0, 0)) ∧ n ≤ cs.length ∧ Chg [] w w1 ∧ w.heap.size < w1.heap.size := by
 obtain ⟨cs, h1, h2, _⟩ := Lib.run_makeNoZero (P := P) (w := w) ps t e ht n (by omega)
 refine ⟨_, _, ext_run f [x] ts [.int .i64 ((n : Nat) : Int)] ho (by simp [hx]) (by rw [run_callFunc_extern hf hname hb hn he]; show ((Extern.BytealgMakeNoZero.makeNoZero ps #[t] #[.int .i64 n]).run P w).andThen _ = _; rw [h1]; rfl), cs.toList, by simp, by simpa using heap_alloc_new w.drew.drew _, by simpa using h2, ?_, by simp⟩
 exact ⟨rfl, rfl, rfl, by simp, fun k hk _ => Below.heap_alloc w.drew.drew _ k hk⟩
theorem run_loadBytes {g : Nat} : ∀ (l : List UInt8) (off : Nat) (acc : ByteArray), (∀ j, j < l.length → w.cell? ⟨g, off + j, none⟩ = some (.int .u8 ((l.getD j 0).toNat : Int))) → (Extern.Bytes.loadBytes ⟨g, off, none⟩ l.length acc).run P w = .ok ⟨acc.data ++ l.toArray⟩ w
 | [], off, acc, _ => by simp [Extern.Bytes.loadBytes]
 | x :: l, off, acc, h => by
  have h0 := h 0 (by simp)
  have hadd : (⟨g, off, none⟩ : Addr).add 1 = ⟨g, off + 1, none⟩ := Addr.add_mid g off 1
  have hl : (load ⟨g, off, none⟩).run P w = .ok (.int .u8 ((x.toNat : Nat) : Int)) w := by
   have : w.cell? ⟨g, off, none⟩ = some (.int .u8 ((x.toNat : Nat) : Int)) := by simpa using h0
   simp [load, Sem.run, this]
  have ih := run_loadBytes l (off + 1) (acc.push x) (fun j hj => by
   have := h (j + 1) (by simp; omega)
   rw [show off + 1 + j = off + (j + 1) by omega, this]
   simp)
  have hx : (((x.toNat : Nat) : Int).toNat.toUInt8) = x := by simp
  simp only [List.length_cons, Extern.Bytes.loadBytes, Sem.run_bind, hl, Result.andThen_ok, hadd, hx, ih]
  congr 1
  simp [ByteArray.push]
theorem run_bytesOf {A : Option Addr} {n c : Nat} {l : List UInt8} (h : Byt w A n l) : (Extern.Bytes.bytesOf (.slice A n c)).run P w = .ok ⟨l.toArray⟩ w := by
 obtain ⟨hl, hc⟩ := h
 rcases Nat.eq_zero_or_pos n with h0 | h0
 ·subst h0
  obtain rfl : l = [] := List.eq_nil_of_length_eq_zero hl
  cases A with
  | none => rfl
  | some ad => simp [Extern.Bytes.bytesOf, Extern.Bytes.loadBytes]; rfl
 ·obtain ⟨g, off, rfl, hcell⟩ := hc h0
  have := run_loadBytes (P := P) (w := w) (g := g) l off .empty (fun j hj => hcell j (by omega))
  rw [hl] at this
  simpa [Extern.Bytes.bytesOf] using this
theorem run_cmp {f : FuncId} {fn : Func} (hf : P.funcs[f]? = some fn) (hname : (fn.name == "runtime.NumGoroutine") = false) (hb : fn.body.isNone = true) (hn : Extern.findNext fn = none) (he : Extern.find fn = some Extern.BytealgCompare.compare)
  (x y : Operand) (ts : Array TypeId) (ho : o.op = .call { callee := .value (.func f), args := #[x, y], argTypes := ts }) (A : Option Addr) (n c : Nat) (l : List UInt8) (B : Option Addr) (m d : Nat) (r : List UInt8) (hx : a.eval x = .slice A n c) (hy : a.eval y = .slice B m d) (h1 : Byt w A n l) (h2 : Byt w B m r) :
  (execOp a.eval o).run P w = .ok (.value (.int .i64 (compareBytes l r))) w := by
 have key : (Extern.BytealgCompare.compare #[.slice A n c, .slice B m d]).run P w = .ok (.int .i64 (compareBytes l r)) w := by
  change Sem.run P (do pure (goInt (Extern.BytealgCompare.cmp (← Extern.Bytes.bytesOf (.slice A n c)) (← Extern.Bytes.bytesOf (.slice B m d))))) w = _
  simp only [Sem.run_bind, run_bytesOf h1, run_bytesOf h2, Result.andThen_ok, Sem.run_pure, Lib.cmp_eq, goInt]
 exact ext_run f [x, y] ts [.slice A n c, .slice B m d] ho (by simp [hx, hy]) (by rw [run_callFunc_extern hf hname hb hn he]; show ((Extern.BytealgCompare.compare #[.slice A n c, .slice B m d]).run P w).andThen _ = _; rw [key]; rfl)
theorem copy_none (d s : Operand) (dT sT : TypeId) (ho : o.op = .call { callee := .builtin .copy, args := #[d, s], argTypes := #[dT, sT] }) (e : TypeId) (hu : P.underlying dT = some (.slice e)) (hsz : (P.info? e).map (·.size) = some 1) (ad : Addr) (D c : Nat) (hd : a.eval d = .slice (some ad) D c) (hs : a.eval s = .slice none 0 0) :
  (execOp a.eval o).run P w = .ok (.value (.int .i64 0)) w := by
 have := run_copy_nil (P := P) w dT sT o.type e ad D c hu (by rw [hsz]; rfl)
 unfold execOp
 simp only [ho, resolve, invoke, builtin, Sem.run_bind, Sem.run_pure, Result.andThen_ok, List.map_toArray, List.map_cons, List.map_nil, hs, hd, this, goInt]
end
theorem fill_step {cs : List Value} {acc r : List UInt8} {p m q : Nat} (ha : acc.length = p) (hr : r.length = m) (hq : p + m = q) (hl : q ≤ cs.length) : splice (b8s acc ++ cs.drop p) p (b8s r) = b8s (acc ++ r) ++ cs.drop q := by
 subst hq
 unfold splice
 rw [List.take_left' (by rw [b8s_length, ha]), b8s_append, b8s_length, hr, List.append_assoc]
 congr 2
 rw [← List.drop_drop, List.drop_left' (by rw [b8s_length, ha]), List.drop_drop]
theorem fill_len {cs : List Value} {acc : List UInt8} {p : Nat} (ha : acc.length = p) (hl : p ≤ cs.length) : (b8s acc ++ cs.drop p).length = cs.length := by
 rw [List.length_append, b8s_length, List.length_drop, ha]
 omega
theorem byt_fill {w : World} {g n : Nat} {t : TypeId} {fr : Nat × Nat} {l : List UInt8} {cs : List Value} (h : w.heap[g]? = some (.cells (b8s l ++ cs).toArray t fr)) (hl : l.length = n) : Byt w (some ⟨g, 0, none⟩) n l := byt_rng (range_sub 0 (b8s l) h (by simp)) hl
def rawL (k r : List UInt8) (n : Int) (t : List UInt8) : List UInt8 := ((k ++ r) ++ e8 (u64n n)) ++ t
theorem e8_be' (u : Nat) (h : u < 18446744073709551616) : be8 (e8 u) = u := by
 have q : ∀ x : Nat, (UInt8.ofNat x).toNat = x % 256 := fun x => by simp
 simp only [be8, e8, List.getD_cons_zero, List.getD_cons_succ, q]
 omega
theorem u64n_inj {n n' : Int} (h1 : -9223372036854775808 ≤ n ∧ n ≤ 9223372036854775807) (h2 : -9223372036854775808 ≤ n' ∧ n' ≤ 9223372036854775807) (h : u64n n = u64n n') : n = n' := by
 have e1 : IntKind.u64.wrap n = n % 18446744073709551616 := rfl
 have e2 : IntKind.u64.wrap n' = n' % 18446744073709551616 := rfl
 unfold u64n at h
 rw [e1, e2] at h
 omega
theorem wf_bounds {n : Int} (h : (Lit.int .i64 n).wf = true) : -9223372036854775808 ≤ n ∧ n ≤ 9223372036854775807 := by
 have h3 : IntKind.i64.min = -9223372036854775808 := by decide
 have h4 : IntKind.i64.max = 9223372036854775807 := by decide
 simpa only [Lit.wf, h3, h4, Bool.and_eq_true, decide_eq_true_eq] using h
theorem rawL_inj {k r t k' r' t' : List UInt8} {n n' : Int} (hk : k.length = 32) (hr : r.length = 32) (hk' : k'.length = 32) (hr' : r'.length = 32) (hn : (Lit.int .i64 n).wf = true) (hn' : (Lit.int .i64 n').wf = true) : rawL k r n t = rawL k' r' n' t' ↔ k = k' ∧ r = r' ∧ n = n' ∧ t = t' := by
 constructor
 ·intro h
  unfold rawL at h
  simp only [List.append_assoc] at h
  have h2 := List.append_inj h (by rw [hk, hk'])
  have h3 := List.append_inj h2.2 (by rw [hr, hr'])
  have h4 := List.append_inj h3.2 (by rw [e8_length, e8_length])
  have h5 := congrArg be8 h4.1
  rw [e8_be' _ (u64n_lt n), e8_be' _ (u64n_lt n')] at h5
  exact ⟨h2.1, h3.1, u64n_inj (wf_bounds hn) (wf_bounds hn') h5, h4.2⟩
 ·rintro ⟨rfl, rfl, rfl, rfl⟩
  rfl
theorem cmp_self : ∀ l : List UInt8, compareBytes l l = 0
 | [] => rfl
 | x :: l => by
  unfold compareBytes
  rw [if_neg (UInt8.lt_irrefl x), if_neg (UInt8.lt_irrefl x)]
  exact cmp_self l
theorem cmp_flip : ∀ l r : List UInt8, compareBytes r l = - compareBytes l r
 | [], [] => rfl
 | [], _ :: _ => rfl
 | _ :: _, [] => rfl
 | x :: l, y :: r => by
  unfold compareBytes
  by_cases h1 : x < y
  ·have h2 : ¬ y < x := UInt8.lt_asymm h1
   rw [if_neg h2, if_pos h1, if_pos h1]
   rfl
  ·by_cases h2 : y < x
   ·rw [if_pos h2, if_neg h1, if_pos h2]
   ·rw [if_neg h2, if_neg h1, if_neg h1, if_neg h2]
    exact cmp_flip l r
theorem cmp_zero : ∀ l r : List UInt8, compareBytes l r = 0 → l = r
 | [], [], _ => rfl
 | [], _ :: _, h => by cases h
 | _ :: _, [], h => by cases h
 | x :: l, y :: r, h => by
  unfold compareBytes at h
  by_cases h1 : x < y
  ·rw [if_pos h1] at h; cases h
  ·rw [if_neg h1] at h
   by_cases h2 : y < x
   ·rw [if_pos h2] at h; cases h
   ·rw [if_neg h2] at h
    have : x = y := UInt8.le_antisymm (UInt8.not_lt.1 h2) (UInt8.not_lt.1 h1)
    rw [this, cmp_zero l r h]
theorem cmp_trans : ∀ l r s : List UInt8, compareBytes l r < 0 → compareBytes r s < 0 → compareBytes l s < 0
 | [], [], _, h, _ => by simp [compareBytes] at h
 | [], _ :: _, [], _, h => by simp [compareBytes] at h
 | [], _ :: _, _ :: _, _, _ => by simp [compareBytes]
 | _ :: _, [], _, h, _ => by simp [compareBytes] at h
 | _ :: _, _ :: _, [], _, h => by simp [compareBytes] at h
 | x :: l, y :: r, z :: s, h1, h2 => by
  unfold compareBytes at h1 h2 ⊢
  by_cases a1 : x < y
  ·by_cases a2 : y < z
   ·rw [if_pos (UInt8.lt_trans a1 a2)]; decide
   ·rw [if_neg a2] at h2
    by_cases a3 : z < y
    ·rw [if_pos a3] at h2; exact absurd h2 (by decide)
    ·have : y = z := UInt8.le_antisymm (UInt8.not_lt.1 a3) (UInt8.not_lt.1 a2)
     subst this
     rw [if_pos a1]; decide
  ·rw [if_neg a1] at h1
   by_cases a2 : y < x
   ·rw [if_pos a2] at h1; exact absurd h1 (by decide)
   ·rw [if_neg a2] at h1
    have : x = y := UInt8.le_antisymm (UInt8.not_lt.1 a2) (UInt8.not_lt.1 a1)
    subst this
    by_cases a3 : x < z
    ·rw [if_pos a3]; decide
    ·rw [if_neg a3] at h2 ⊢
     by_cases a4 : z < x
     ·rw [if_pos a4] at h2; exact absurd h2 (by decide)
     ·rw [if_neg a4] at h2 ⊢
      exact cmp_trans l r s h1 h2
end Mur
namespace Mur
open Go Go.RowKit Wk
open Go.Lib (compareBytes)
theorem less_cmp : ∀ l r : List UInt8, Op.bytesLess l r = decide (compareBytes l r < 0)
 | [], [] => rfl
 | [], _ :: _ => rfl
 | _ :: _, [] => rfl
 | x :: l, y :: r => by
  unfold compareBytes Op.bytesLess
  by_cases h1 : x < y
  ·rw [if_pos h1, decide_eq_true h1]
   rfl
  ·rw [if_neg h1, decide_eq_false h1]
   by_cases h2 : y < x
   ·have h3 : (x == y) = false := by
     rw [beq_eq_false_iff_ne]
     rintro rfl
     exact UInt8.lt_irrefl x h2
    rw [if_pos h2, h3]
    rfl
   ·have : x = y := UInt8.le_antisymm (UInt8.not_lt.1 h2) (UInt8.not_lt.1 h1)
    rw [if_neg h2, this, less_cmp l r]
    simp
theorem strlss {P : Program} {w : World} {a : Act} {o : Oper} (t ty : TypeId) (x y : Operand) (ho : o.op = .binOp .lss t x y ty) (l r : List UInt8) (hx : a.eval x = .string (str l)) (hy : a.eval y = .string (str r)) : (execOp a.eval o).run P w = .ok (.value (.bool (decide (compareBytes l r < 0)))) w := by
 have hg : (eqGuard .lss t x y (.string (str l)) (.string (str r))).run P w = .ok () w := rfl
 unfold execOp
 simp only [ho, hx, hy]
 simp only [binOp_string_lss, Sem.run_bind, Sem.run_pure, hg, Result.andThen_ok, str_toList, less_cmp]
end Mur
namespace Go.Proofs.YtgbadghjnpbiaaaGreatDoor
open Go.RowKit
open Mur (St w32 u32s cell_u32s free_row set_u32s b8s dgV Byt cutA)
set_option maxRecDepth 100000
theorem Sum_var (b : List UInt8) (A : Option Addr) (n c : Nat) (w : World) (hv : ShaVars w) (hb : Byt w A n b) (hnc : n ≤ c) (hA : A = none → c = 0) (hn : n ≤ 140737488351232) :
  Calls Tryz.prog 80 #[.slice A n c] w fun e w' => ∃ d, Hid (d = Mur.sha b) ∧ d.length = 32 ∧ e = .returned (.agg (b8s d).toArray) ∧ Below w.heap.size w w' := by
 have HV := Go.Lib.hid hv; clear hv
 have HB := Go.Lib.hid hb; clear hb
 have HA := Go.Lib.hid hA; clear hA
 have hz := dgV_size (show (List.replicate 32 (0 : UInt8)).length = 32 by rfl)
 have HZ := Go.Lib.hid hz; clear hz
 go_enter Tryz.func80, Tryz.ntmps80
 have hb1 : ∀ o, Below w.heap.size w (w.alloc o) := fun o => (Below.refl _ _).alloc (Nat.le_refl _) o
 have HB1 := Go.Lib.hid hb1; clear hb1
 go_wp2_with (first
  | (go_at_call 98; refine (sum_var b A n c _ (HV.out.below (HB1.out _)) (HB.out.below (HB1.out _)) hnc HA.out hn).mono ?_; rintro e w2 ⟨d, hd, hdl, rfl, hB2⟩; have hDZ := Go.Lib.hid (dgV_size hdl); clear hdl)
  | (refine wpList_store_row rfl 28 (.tmp 2) (.tmp 4) rfl w.heap.size (b8s d).toArray rfl rfl 28 (b8s (List.replicate 32 0)).toArray (Mur.hp_below hB2 (Mur.hp_a1 _ _)) (by rw [hDZ.out]; kernel_rfl) (by rw [HZ.out, hDZ.out]) (Mur.b8s_all _) ?_))
 refine bodyPost_ret (v := .agg (b8s d).toArray) (results_cell_row rfl _ _ w.heap.size 28 (b8s d).toArray (0, 0) _ rfl (setRow_heap _ _ _ _ _ _ (Mur.hp_below hB2 (Mur.hp_a1 _ _))) Tryz.underlying28 rfl (by rw [hDZ.out]; kernel_rfl)) rfl ⟨d, hd, by simpa [Mur.b8s_length] using hDZ.out, rfl, below_setRow ((HB1.out _).trans (hB2.mono (by simp))) (Nat.le_refl _) _⟩
end Go.Proofs.YtgbadghjnpbiaaaGreatDoor
namespace Go.Proofs.YtgbadghjnpbiaaaGreatDoor
open Go.RowKit Wk
open Mur (b8s Byt Own8 Seg Segs flat cutA)
set_option maxRecDepth 100000
set_option maxHeartbeats 4000000
def With_F1 (b : Array Value) (u1 u2 u4 u6 : Value) : Act := sg 17 [(1, u1), (2, u2), (4, u4), (6, u6)] b
theorem key_any (s : List UInt8) (A : Option Addr) (n c : Nat) (w : World) (hv : ShaVars w) (hb : Byt w A n s) (hnc : n ≤ c) (ha : A = none → c = 0) (hn : n ≤ 140737488351232) : Calls Tryz.prog 78 #[.slice A n c] w fun e w' => ∃ d, Hid (d = Mur.hkey s) ∧ d.length = 64 ∧ e = .returned (.agg (b8s d).toArray) ∧ Chg [] w w' := by
 have HV := Go.Lib.hid hv
 clear hv
 have HB := Go.Lib.hid hb
 clear hb
 have HA := Go.Lib.hid ha
 clear ha
 refine calls_of_wp Tryz.func78 rfl ?_
 refine sR<|nW 0 2 Z64 120 fun W1 hb1 ch1 sz1 => eN<|wp_seq<|sR<|rP 0 4 (.slice A n c)<|rP 1 5 (vI n) ?_
 by_cases hx1 : (n : Int) > (64 : Int)
 ·refine bT 2 6 ((n : Int) > (64 : Int))<|eN<|cT<|sR<|rP 0 7 (.slice A n c) ?_
  have kk1 : Chg [] w W1 := zA ch1
  refine rK 1 8 (Sum_var s A n c W1 (HV.out.below (Chg.below0 kk1)) (Mur.byt_chg HB.out kk1 (fun g off e hl => trivial)) (by omega) HA.out (by omega)) ?_
  rintro _ W2 ⟨dd1, hd1, hdl1, rfl, hB1⟩
  have ch2 := Chg.ofBelow hB1
  have zz2 := ch2.size
  refine nW 2 3 Z32 28 fun W3 hb2 ch3 sz2 => rU 3 rfl (sC dd1 hdl1 hb2) fun W4 hb3 ch4 zz4 => eN<|reg<|rq 0 9 (.slice (some ⟨W2.heap.size, 0, none⟩) 32 32) rfl (Mur.arr_slice 28 5 (.tmp 3) 32 rfl Tryz.underlying28 (by kernel_rfl) W2.heap.size (by kernel_rfl))<|rP 1 0 (.slice (some ⟨W2.heap.size, 0, none⟩) 32 32)<|eN<|sR<|rq 0 10 (.slice (some ⟨w.heap.size, 0, none⟩) 64 64) rfl (Mur.arr_slice 120 5 (.tmp 2) 64 rfl Tryz.underlying120 (by kernel_rfl) w.heap.size (by kernel_rfl))<|rP 1 11 (.slice (some ⟨W2.heap.size, 0, none⟩) 32 32)<|rX 2 12 rfl rfl (Mur.copy8 (.tmp 10) (.tmp 11) 22 22 rfl 5 Tryz.underlying22 (by kernel_rfl) w.heap.size 64 64 (by kernel_rfl) (some ⟨W2.heap.size, 0, none⟩) 32 32 (by kernel_rfl) 120 (List.replicate 64 (0 : UInt8)) dd1 ((qO ch4 (qT ch3 (qT ch2 hb1)))) rfl (Mur.byt_blk dd1 hdl1 hb3) (by omega) (fun h => by cases h)) ?_
  rintro _ W5 ⟨rfl, hb4, ch5⟩
  have hcl1 : (dd1 ++ (List.replicate 64 (0 : UInt8)).drop 32).length = 64 := by have h1 := (Mur.byt_blk dd1 hdl1 hb3).1; have h2 : (List.replicate 64 (0 : UInt8)).length = 64 := (by simp); simp only [List.length_append, List.length_drop]; omega
  obtain ⟨cp1, hcp1⟩ : ∃ l, Hid (l = dd1 ++ (List.replicate 64 (0 : UInt8)).drop 32) := ⟨_, rfl⟩
  rw [← hcp1.out] at hb4 hcl1
  have zz5 := ch5.size
  refine eN<|sR<|rq 0 13 _ rfl (lB cp1 hcl1 hb4)<|rU 1 rfl (Mur.storeAll 120 (.tmp 2) (.tmp 13) rfl w.heap.size (by kernel_rfl) cp1 64 hcl1 (by kernel_rfl) (by kernel_rfl) 120 ((b8s cp1).toArray) hb4 (by rw [List.size_toArray, Mur.b8s_length, hcl1])) fun W6 hb5 ch6 zz6 => eN<|wp_ret<|?_
  exact retC rfl hb5 (by rw [List.size_toArray, Mur.b8s_length, hcl1]; kernel_rfl) ⟨_, Go.Lib.hid (hcp1.out.trans (Mur.key_big (by rw [HB.out.1]; omega) hd1.out)), hcl1, rfl, (kB (kB (kB (kA (kA kk1 ch2) ch3) ch4) ch5) ch6)⟩
 refine bF 2 6 ((n : Int) > (64 : Int))<|eN<|cF<|wp_skip<|nxt<|sR<|rq 0 10 (.slice (some ⟨w.heap.size, 0, none⟩) 64 64) rfl (Mur.arr_slice 120 5 (.tmp 2) 64 rfl Tryz.underlying120 (by kernel_rfl) w.heap.size (by kernel_rfl))<|rP 1 11 (.slice A n c) ?_
 have kk7 : Chg [] w W1 := zA ch1
 refine rX 2 12 rfl rfl (Mur.copy8 (.tmp 10) (.tmp 11) 22 22 rfl 5 Tryz.underlying22 (by kernel_rfl) w.heap.size 64 64 (by kernel_rfl) A n c (by kernel_rfl) 120 (List.replicate 64 (0 : UInt8)) s (hb1) rfl (Mur.byt_chg HB.out kk7 (fun g off e hl => trivial)) (by omega) HA.out) ?_
 rintro _ W7 ⟨rfl, hb6, ch7⟩
 have hcl2 : (s ++ (List.replicate 64 (0 : UInt8)).drop n).length = 64 := by have h1 := (Mur.byt_chg HB.out kk7 (fun g off e hl => trivial)).1; have h2 : (List.replicate 64 (0 : UInt8)).length = 64 := (by simp); simp only [List.length_append, List.length_drop]; omega
 obtain ⟨cp2, hcp2⟩ : ∃ l, Hid (l = s ++ (List.replicate 64 (0 : UInt8)).drop n) := ⟨_, rfl⟩
 rw [← hcp2.out] at hb6 hcl2
 have zz7 := ch7.size
 refine eN<|sR<|rq 0 13 _ rfl (lB cp2 hcl2 hb6)<|rU 1 rfl (Mur.storeAll 120 (.tmp 2) (.tmp 13) rfl w.heap.size (by kernel_rfl) cp2 64 hcl2 (by kernel_rfl) (by kernel_rfl) 120 ((b8s cp2).toArray) hb6 (by rw [List.size_toArray, Mur.b8s_length, hcl2])) fun W8 hb7 ch8 zz8 => eN<|wp_ret<|?_
 exact retC rfl hb7 (by rw [List.size_toArray, Mur.b8s_length, hcl2]; kernel_rfl) ⟨_, Go.Lib.hid (hcp2.out.trans (Mur.key_small HB.out.1 (by omega))), hcl2, rfl, (kB (kB kk7 ch7) ch8)⟩
theorem with_any (c : UInt8) (k : List UInt8) (hk : k.length = 64) (w : World) : Calls Tryz.prog 79 #[.agg (b8s k).toArray, vB c.toNat] w fun e w' => e = .returned (.agg (b8s (Mur.xorl c k)).toArray) ∧ Chg [] w w' := by
 refine calls_of_wp Tryz.func79 rfl ?_
 refine sR<|nW 0 2 ((b8s k).toArray) 120 fun W1 hb1 ch1 sz1 => nW 1 4 Z64 120 fun W2 hb2 ch2 sz2 => eN<|wp_seq<|sR<|rP 0 6 (vI 0)<|eN<|wp_block<|?_
 refine Wk.loop (fun m_ a wr => ∃ (i : Nat), m_ = 64 - i ∧ a = With_F1 a.tmps (vB c.toNat) (pw w 0) (pw W1 0) (vI i) ∧ i ≤ 64 ∧ wr.heap[w.heap.size]? = some (.cells (b8s (Mur.xorTo c k i)).toArray 120 (0, 0)) ∧ wr.heap[W1.heap.size]? = some (.cells Z64 120 (0, 0)) ∧ Chg [] w wr ∧ W1.heap.size < wr.heap.size) (64 - 0) ?_ ?_
 ·have kk1 : Chg [] w W1 := zA ch1
  refine ⟨0, rfl, by kernel_rfl, by omega, (by rw [Mur.xorTo_zero]; exact (qT ch2 hb1)), hb2, (kA kk1 ch2), (by omega)⟩
 rintro mm1 aa1 W3 ⟨i, hmm1, hF1, hi, hX, hZ, HB, hz4⟩
 generalize aa1.tmps = bb1 at hF1
 subst hF1
 have hxl : (Mur.xorTo c k i).length = 64 := by rw [Mur.xorTo_length, hk]
 by_cases hlt : i < 64
 ·refine sR<|bT 0 7 ((i : Int) < (64 : Int))<|eN<|wp_seq<|cT<|wp_skip<|nxt<|wp_seq<|wp_block<|sR<|rP 0 8 (vI i)<|rP 1 5 (vI i)<|eN<|reg<|rP 0 9 (vI i)<|rq 1 10 (pw w (0 + i * 1)) rfl (Wk.index_arr 120 5 (.tmp 2) (.tmp 9) rfl 64 Tryz.underlying120 1 (by kernel_rfl) w.heap.size 0 i .i64 (by kernel_rfl) (by kernel_rfl) (by omega))<|rq 2 11 _ rfl (ld 5 10 w.heap.size (0 + i * 1) (vB ((k.getD i 0).toNat : Nat)) (by rw [← Mur.xorTo_getD c k i (by omega)]; exact (Mur.blk_cell (Mur.xorTo c k i) hX i (by rw [hxl]; omega))))<|rP 3 12 (vB c.toNat)<|rq 4 13 (vB (((k.getD i 0) ^^^ c).toNat : Nat)) rfl (Mur.xor8 5 5 (.tmp 11) (.tmp 12) rfl (k.getD i 0) c (by kernel_rfl) (by kernel_rfl))<|rq 5 14 (pw w (0 + i * 1)) rfl (Wk.index_arr 120 5 (.tmp 2) (.tmp 9) rfl 64 Tryz.underlying120 1 (by kernel_rfl) w.heap.size 0 i .i64 (by kernel_rfl) (by kernel_rfl) (by omega))<|rU 6 rfl (Mur.store8 5 (.tmp 14) (.tmp 13) rfl (by kernel_rfl) w.heap.size i (by kernel_rfl) ((k.getD i 0) ^^^ c) (by kernel_rfl) 120 (Mur.xorTo c k i) hX (by rw [hxl]; omega)) fun W4 hb3 ch3 zz3 => rE<|inN<|nxt<|reg<|rI 0 15 ((i : Int) + 1) (((i + 1 : Nat) : Int))<|rP 1 6 (vI (i + 1 : Nat))<|eN<|?_
  refine ⟨_, ?_, i + 1, rfl, by kernel_rfl, (by omega), (by rw [← Mur.xorTo_set c k i (by omega)]; exact hb3), (qO ch3 hZ), (kB HB ch3), (by omega)⟩
  omega
 obtain rfl : i = 64 := by omega
 refine sR<|bF 0 7 (((64 : Nat) : Int) < (64 : Int))<|eN<|wp_seq<|cF<|xX<|nxt<|sR<|rq 0 16 _ rfl (lB (Mur.xorTo c k 64) hxl hX)<|rU 1 rfl (sC (Mur.xorTo c k 64) hxl hZ) fun W5 hb4 ch4 zz4 => eN<|wp_ret<|?_
 exact retC rfl hb4 (by rw [List.size_toArray, Mur.b8s_length, hxl]; kernel_rfl) ⟨by rw [Mur.xorTo_all c k hk], (kB HB ch4)⟩
end Go.Proofs.YtgbadghjnpbiaaaGreatDoor
