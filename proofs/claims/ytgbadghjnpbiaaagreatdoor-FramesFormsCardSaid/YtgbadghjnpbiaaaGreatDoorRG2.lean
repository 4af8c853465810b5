/- What the row rests on, part 2. -/
import Derived.Test.YtgbadghjnpbiaaaGreatDoorCards
import Derived.Test.YtgbadghjnpbiaaaGreatDoorTie
import Derived.ProofKit
import Derived.OpenShut
import Derived.Deep.DeepHandedRow
import Derived.Lib.LaidTab
import Derived.WideKeyArgs
import Derived.Carry
import Derived.Deep.Slices
import Derived.Deep.MidRow
import Derived.WalkKit
import Derived.Laws.CopyOwn
import Derived.Maps.AppendAt
import Derived.OwnWalk
import Derived.OrdersHeld
import Derived.Deep.AppendLies
import Derived.DeepKeys
import Derived.Laws.StructEq
import Derived.LoopN
import Derived.Lib.Hide
import Derived.Deep.Draws
import Derived.Test.YtgbadghjnpbiaaaGreatDoorRG1
namespace Go.Proofs.YtgbadghjnpbiaaaGreatDoor
open Go.RowKit
open Mur (St w32 u32s cell_u32s free_row set_u32s b8s dgV Byt cutA)
def stCells (s : St) : Array Value := #[.int .u32 (w32 s.a), .int .u32 (w32 s.b), .int .u32 (w32 s.c), .int .u32 (w32 s.d), .int .u32 (w32 s.e), .int .u32 (w32 s.f), .int .u32 (w32 s.g), .int .u32 (w32 s.h)]
def ShaVars (w : World) : Prop :=
 (∀ i, i < 64 → w.cell? ⟨2, i, none⟩ = some (.int .u32 (w32 (Mur.K.getD i 0)))) ∧ (∀ i, i < 8 → w.cell? ⟨0, i, none⟩ = some (.int .u32 (w32 (Mur.H0.toList.getD i 0))))
theorem ShaVars.below {w w1 : World} (h : ShaVars w) (hb : Below w.heap.size w w1) : ShaVars w1 := ⟨fun i hi => Mur.cell_below hb (h.1 i hi), fun i hi => Mur.cell_below hb (h.2 i hi)⟩
theorem ShaVars.lt {w : World} (h : ShaVars w) : 2 < w.heap.size := World.block_lt_of_cell? w ⟨2, 0, none⟩ (h.1 0 (by omega))
theorem ShaVars.range {w : World} (h : ShaVars w) : w.rangeAt 0 0 (stCells Mur.H0).toList := by
 intro j v hv
 have hj : j < 8 := (List.getElem?_eq_some_iff.1 hv).1
 rw [Nat.zero_add, h.2 j hj]
 obtain rfl | rfl | rfl | rfl | rfl | rfl | rfl | rfl : j = 0 ∨ j = 1 ∨ j = 2 ∨ j = 3 ∨ j = 4 ∨ j = 5 ∨ j = 6 ∨ j = 7 := by omega
 all_goals (rw [← hv]; rfl)
def L2 (w : World) (d : List UInt8) (s : St) (wr : World) : Prop :=
 Below w.heap.size w wr ∧ w.heap.size + 2 ≤ wr.heap.size ∧ wr.heap[w.heap.size]? = some (.cells (b8s d).toArray 28 (0, 0)) ∧ wr.heap[w.heap.size + 1]? = some (.cells (stCells s) 101 (0, 0))
theorem L2.below {w wr w1 : World} {d : List UInt8} {s : St} (h : L2 w d s wr) (hb : Below (w.heap.size + 2) wr w1) : L2 w d s w1 :=
 ⟨h.1.trans (hb.mono (by omega)), Nat.le_trans h.2.1 hb.size, (hb.block _ (by omega)).trans h.2.2.1, (hb.block _ (by omega)).trans h.2.2.2⟩
theorem L2.put {w wr : World} {d : List UInt8} {s : St} (h : L2 w d s wr) (t : St) : L2 w d t (wr.setRow (w.heap.size + 1) (stCells t)) :=
 ⟨below_setRow h.1 (by omega) _, by simpa using h.2.1, (setRow_other wr _ _ _ (by omega)).trans h.2.2.1, setRow_heap _ _ _ _ _ _ h.2.2.2⟩
def lenOf : Value → Nat
 | .slice _ n _ => n
 | _ => 0
def mk128 : Array Value := madeCells #[.int .u8 0] 128
theorem mk128_size : mk128.size = 128 * 1 := by simp [mk128, size_madeCells]
theorem run_mk128 (w : World) : (Instr.makeSlice 22 (.int .i64 0) (.int .i64 128)).run Tryz.prog w = .ok (.slice (some ⟨w.heap.size, 0, none⟩) 0 128) (w.alloc (.cells mk128 5)) := by
 obtain ⟨i, hi, hs⟩ := Option.map_eq_some_iff.1 (show (Tryz.prog.info? 5).map (fun i => (i.zero, i.size, i.bytes)) = some (some (.int .u8 0), 1, 1) by kernel_rfl)
 simp only [Prod.mk.injEq] at hs
 have h := run_make (P := Tryz.prog) w 22 5 i (.int .u8 0) Tryz.underlying22 hi hs.1 .i64 .i64 0 128 (by omega) (by omega) (by rw [hs.2.2]; omega) (by omega)
 rw [hs.2.1] at h
 exact h
def lenBytes (n : Nat) : List UInt8 := [Mur.byteBE (8*n) 56, Mur.byteBE (8*n) 48, Mur.byteBE (8*n) 40, Mur.byteBE (8*n) 32, Mur.byteBE (8*n) 24, Mur.byteBE (8*n) 16, Mur.byteBE (8*n) 8, Mur.byteBE (8*n) 0]
theorem byte_shape (n i : Nat) : (n : Int) * 8 / 2 ^ i % 256 = ((Mur.byteBE (8 * n) i).toNat : Int) := by
 have h : (Mur.byteBE (8 * n) i).toNat = n * 8 / 2 ^ i % 256 := by
  rw [Mur.byteBE, UInt8.toNat_ofNat', Nat.shiftRight_eq_div_pow, Nat.mul_comm]
 rw [h]
 simp
theorem lenBytes_take (n k : Nat) (h : k < 8) : (lenBytes n).take (k + 1) = (lenBytes n).take k ++ [Mur.byteBE (8 * n) (56 - 8 * k)] := by
 obtain rfl | rfl | rfl | rfl | rfl | rfl | rfl | rfl : k = 0 ∨ k = 1 ∨ k = 2 ∨ k = 3 ∨ k = 4 ∨ k = 5 ∨ k = 6 ∨ k = 7 := by omega
 all_goals rfl
def digTo (s : St) (i : Nat) : List UInt8 := (Mur.dig s).take i ++ List.replicate (32 - i) 0
theorem dig_length (s : St) : (Mur.dig s).length = 32 := by simp [Mur.dig]
theorem digTo_length (s : St) (i : Nat) : (digTo s i).length = 32 := by simp [digTo, dig_length]; omega
theorem dig_shape (x : UInt32) (m : Nat) : w32 x / 2 ^ (24 - 8 * (m % 4)) % 256 = (((x >>> UInt32.ofNat (24 - 8 * (m % 4))).toUInt8).toNat : Int) := by
 have h : (UInt32.ofNat (24 - 8 * (m % 4))).toNat = 24 - 8 * (m % 4) := by rw [UInt32.toNat_ofNat']; omega
 rw [Mur.shr_u32 x (UInt32.ofNat (24 - 8 * (m % 4))) (by rw [h]; omega) _ (by rw [h]), UInt32.toNat_toUInt8]
 simp [w32]
theorem digTo_succ (s : St) (q : Nat) (h : q < 32) : digTo s (q + 1) = (digTo s q).set q ((s.toList[q / 4]?.getD 0) >>> UInt32.ofNat (24 - 8 * (q % 4))).toUInt8 := by
 have hl := dig_length s
 have hg : (Mur.dig s)[q]? = some ((s.toList[q / 4]?.getD 0) >>> UInt32.ofNat (24 - 8 * (q % 4))).toUInt8 := by
  simp [Mur.dig, h, List.getD_eq_getElem?_getD]
 have hq : q < (Mur.dig s).length := by omega
 have hg' : (Mur.dig s)[q] = ((s.toList[q / 4]?.getD 0) >>> UInt32.ofNat (24 - 8 * (q % 4))).toUInt8 := by
  rw [List.getElem?_eq_getElem hq] at hg
  exact Option.some.inj hg
 have hlt : ((Mur.dig s).take q).length = q := by rw [List.length_take]; omega
 rw [digTo, digTo, List.take_succ_eq_append_getElem hq, hg', show 32 - q = (32 - (q + 1)) + 1 by omega, List.replicate_succ, List.set_append_right _ _ (by omega), hlt, Nat.sub_self, List.set_cons_zero, List.append_assoc]
 rfl
theorem digTo_all (s : St) : digTo s 32 = Mur.dig s := by
 rw [digTo, List.take_of_length_le (by rw [dig_length]; exact Nat.le_refl _), Nat.sub_self, List.replicate_zero, List.append_nil]
theorem L2.setD {w wr : World} {d : List UInt8} {s : St} (h : L2 w d s wr) (k : Nat) (x : UInt8) : L2 w (d.set k x) s (wr.setCell ⟨w.heap.size, k, none⟩ (.int .u8 (x.toNat : Int))) :=
 ⟨h.1.setCell (by simp) _, by simpa using h.2.1, Mur.set_b8s h.2.2.1 x, Mur.hp_set_ne h.2.2.2 _ _ _ (by omega)⟩
theorem stCells_all (s : St) : (stCells s).all (·.oneCell') = true := by simp [stCells, Value.oneCell']
theorem block_cells (s : St) (b : List UInt8) (g off n c : Nat) (w : World) (hK : ∀ i, i < 64 → w.cell? ⟨2, i, none⟩ = some (.int .u32 (w32 (Mur.K.getD i 0))))
  (hb : ∀ j, j < 64 → w.cell? ⟨g, off + j, none⟩ = some (.int .u8 ((b.getD j 0).toNat : Int))) (hn : 64 ≤ n) (hnc : n ≤ 140737488351232) (hg : g < w.heap.size) (h1 : 2 < w.heap.size) :
  Calls Tryz.prog 108 #[.agg (stCells s), .slice (some ⟨g, off, none⟩) n c] w fun e w' => ∃ t, Hid (t = Mur.block s b) ∧ e = .returned (.agg (stCells t)) ∧ Below w.heap.size w w' :=
 (block_any s b g off n c w hK hb hn hnc hg h1).mono fun _ _ ⟨h1, h2⟩ => ⟨_, rfl, h1, h2⟩
set_option maxRecDepth 100000
set_option maxHeartbeats 2000000
theorem sum_any (b : List UInt8) (A : Option Addr) (n c : Nat) (w : World) (hv : ShaVars w) (hb : Byt w A n b) (hnc : n ≤ c) (hA : A = none → c = 0) (hn : n ≤ 140737488351232) :
  Calls Tryz.prog 98 #[.slice A n c] w fun e w' => e = .returned (dgV (Mur.sha b)) ∧ Below w.heap.size w w' := by
 have HV := Go.Lib.hid hv; clear hv
 have HB := Go.Lib.hid hb; clear hb
 have HA := Go.Lib.hid hA; clear hA
 go_enter Tryz.func98, Tryz.ntmps98
 have hr1 : (w.alloc (.cells (b8s (List.replicate 32 0)).toArray 28)).rangeAt 0 0 (stCells Mur.H0).toList :=
  (HV.out.below ((Below.refl _ _).alloc (Nat.le_refl _) _)).range
 have HR1 := Go.Lib.hid hr1; clear hr1
 go_wp2_with (first
  | (refine wpList_load_mid rfl 101 (.global 0) rfl 0 0 rfl (stCells Mur.H0).toList _ HR1.out Tryz.underlying101 rfl (by kernel_rfl) ?_)
  | (refine wpList_store_row rfl 101 (.tmp 3) (.tmp 8) rfl (w.heap.size + 1) (stCells Mur.H0) rfl rfl 101 (u32s (List.replicate 8 0)) (Mur.hp_a2 _ _ _) (by kernel_rfl) (by kernel_rfl) (by kernel_rfl) ?_))
 go_loopw [0] (fun v wr => ∃ (j : Nat) (A' : Option Addr) (n' c' : Nat) (s' : St) (l : List UInt8), v = .slice A' n' c' ∧ n' ≤ c' ∧ Hid (A' = none → c' = 0) ∧ Hid (n' + 64 * j = n) ∧ Byt w A' n' l ∧ Hid (l = b.drop (64 * j)) ∧ Hid (s' = Mur.blocks Mur.H0 b j) ∧ L2 w (List.replicate 32 0) s' wr)
  (fun v _ => lenOf v)
 case atStart =>
  refine ⟨0, A, n, c, Mur.H0, b, rfl, hnc, HA, Go.Lib.hid (by omega), HB.out, rfl, rfl, ?_⟩
  refine ⟨below_setRow (((Below.refl _ _).alloc (Nat.le_refl _) _).alloc (by simp) _) (by omega) _, by simp, ?_, setRow_heap _ _ _ _ _ _ (Mur.hp_a2 _ _ _)⟩
  rw [setRow_other _ _ _ _ (by omega)]
  exact (Mur.hp_old (Mur.hp_a1 _ _) _).trans rfl
 case round =>
  obtain ⟨j, A', n', c', s', l, rfl, hnc', HA', HN, HBy, Hl, Hs, HL⟩ := hrel
  by_cases hlt : 64 ≤ n'
  ·obtain ⟨g, off, rfl, hc⟩ := HBy.2 (by omega)
   have HC := Go.Lib.hid hc; clear hc
   have HK : Hid (∀ i, i < 64 → wr.cell? ⟨2, i, none⟩ = some (.int .u32 (w32 (Mur.K.getD i 0)))) := Go.Lib.hid (HV.out.below HL.1).1
   have hg : g < w.heap.size := World.block_lt_of_cell? w ⟨g, off + 0, none⟩ (HC.out 0 (by omega))
   have hsz := HL.2.1
   have hn' : n' ≤ n := by have := HN.out; omega
   have h1 := HV.out.lt
   go_wp2_with (first
    | (refine wpList_load_row rfl 101 (.tmp 3) rfl (w.heap.size + 1) rfl 101 (stCells s') (0, 0) _ HL.2.2.2 Tryz.underlying101 rfl (by kernel_rfl) ?_)
    | (go_at_call 108; refine (block_cells s' l g off n' c' wr HK.out (fun i hi => (HL.1.cell (p := ⟨g, off + i, none⟩) hg).trans (HC.out i (by omega))) hlt (by omega) (by omega) (by omega)).mono ?_; rintro e w2 ⟨s2, Hs2, rfl, hB2⟩; have HL2 := HL.below (hB2.mono hsz))
    | (refine wpList_store_row rfl 101 (.tmp 3) (.tmp 18) rfl (w.heap.size + 1) (stCells s2) rfl rfl 101 (stCells s') HL2.2.2.2 (by kernel_rfl) (by kernel_rfl) (stCells_all _) ?_)
    | (refine Mur.wpList_cut_from rfl 22 (.tmp 14) (.const (.int .i64 64)) rfl 5 Tryz.underlying22 (by kernel_rfl) (some ⟨g, off, none⟩) n' c' 64 rfl rfl hlt hnc' ?_))
   refine ⟨⟨j + 1, cutA (some ⟨g, off, none⟩) c' 64, n' - 64, c' - 64, s2, l.drop 64, rfl, by omega, fun h => absurd h (Mur.cutA_some _ _ _), ?_, HBy.from_ 64 hlt hnc', ?_, ?_, HL2.put s2⟩, by simp [lenOf]; omega⟩
   ·have := HN.out
    exact Go.Lib.hid (by omega)
   ·exact Go.Lib.hid (by rw [Hl.out, List.drop_drop]; congr 1)
   ·refine Go.Lib.hid ?_
    rw [Hs2.out, Hs.out, Hl.out, Mur.blocks_last, Mur.block_take64]
    have := HBy.1
    rw [Hl.out] at this
    omega
  ·have hmk := run_mk128
   have hn' : n' ≤ n := by have := HN.out; omega
   have hsz := HL.2.1
   go_wp2_with (first
    | (at_builtin; refine Mur.wpList_append_byt (w0 := wr) (w.heap.size + 2) rfl (.tmp 19) (.tmp 20) 22 5 rfl Tryz.underlying22 (by kernel_rfl) (.slice (some ⟨wr.heap.size, 0, none⟩) 0 128) 0 [] l A' n' c' rfl rfl (World.ownsRow_made wr mk128 128 hsz (by unfold maxLen; omega) mk128_size) ((HBy.below HL.1).below ((Below.refl _ _).alloc (Nat.le_refl _) _)) HA'.out ((Below.refl _ _).alloc hsz _) (by simp; omega) (by simp; omega) ?_; intro v1 w1 HO1 HB1 hg1 hat1)
    | (at_builtin; refine Mur.wpList_append_byt (w0 := wr) (w.heap.size + 2) rfl (.tmp 21) (.tmp 22) 22 5 rfl Tryz.underlying22 (by kernel_rfl) v1 (0 + n') ([] ++ l) [128] (some ⟨w1.heap.size, 0, none⟩) 1 1 rfl rfl (HO1.alloc _) (Mur.Byt_box _ _ _) (fun h => by cases h) (HB1.alloc (by have := HB1.size; omega) _) (by have := HB1.size; simp; omega) (by have := HBy.1; simp; omega) ?_; intro v2 w2 HO2 HB2 hg2 hat2))
   have HL2 := HL.below HB2
   have HM : Hid (n' = n % 64) := by have := HN.out; exact Go.Lib.hid (by omega)
   have Hln : Hid (l.length = n') := HBy.1
   rw [List.nil_append, Nat.zero_add] at HO2
   go_loopw [5] (fun v wr => ∃ (z N : Nat) (T : List UInt8), z ≤ Mur.padZeros n ∧ lenOf v = N ∧ Hid (N = n' + 1 + z) ∧ N ≤ 200 ∧ Hid (T = l ++ [128] ++ List.replicate z 0) ∧ wr.ownsRow (w.heap.size + 2) 5 1 v N (b8s T) ∧ L2 w (List.replicate 32 0) s' wr)
    (fun v _ => 200 - lenOf v)
   case atStart =>
    refine ⟨0, n' + 1, _, by omega, ?_, rfl, by omega, rfl, by simpa using HO2, HL2⟩
    obtain ⟨_, _, rfl, _⟩ := Mur.own_byt HO2
    rfl
   case round =>
    clear HO1 HO2 HB1 HB2 HL2 HL
    obtain ⟨z, N, T, hz, hv, HN2, hN2, HT, HO, HL⟩ := hrel
    obtain ⟨A3, c3, rfl, hc3, hm3, HB3⟩ := Mur.own_byt HO
    clear hv
    have hz64 := (Mur.padZeros_spec n).2
    have hsz := HL.2.1
    by_cases hlt : z < Mur.padZeros n
    ·have t1 : ((((N : Nat) : Int) % 64) != 56) = true := by
      have := (Mur.padZeros_spec n).1; have := HM.out; have := HN2.out; rw [bne_iff_ne]; omega
     have hN3 : N ≤ 126 := by have := HN2.out; omega
     go_wp2_with (at_builtin; refine Mur.wpList_append_byt (w0 := wr) (w.heap.size + 2) rfl (.tmp 28) (.tmp 29) 22 5 rfl Tryz.underlying22 (by kernel_rfl) (.slice A3 N c3) N T [0] (some ⟨wr.heap.size, 0, none⟩) 1 1 rfl rfl (HO.alloc _) (Mur.Byt_box _ _ _) (fun h => by cases h) ((Below.refl _ _).alloc hsz _) (by simp; omega) (by omega) ?_; intro v4 w4 HO4 HB4 hg4 hat4)
     obtain ⟨A5, c5, rfl, _⟩ := Mur.own_byt HO4
     refine ⟨⟨z + 1, N + 1, T ++ [0], by omega, rfl, Go.Lib.hid (by have := HN2.out; omega), by omega, Go.Lib.hid ?_, HO4, HL.below HB4⟩, by simp [lenOf]; omega⟩
     rw [HT.out, List.replicate_succ']
     simp
    ·have hz' : Hid (z = Mur.padZeros n) := Go.Lib.hid (by omega)
     have t1 : ((((N : Nat) : Int) % 64) != 56) = false := by
      have := (Mur.padZeros_spec n).1; have := HM.out; have := HN2.out; have := hz'.out; rw [bne_eq_false_iff_eq]; omega
     have hN3 : N ≤ 127 := by have := HN2.out; omega
     have T0 : Hid (T = l ++ [128] ++ List.replicate (Mur.padZeros n) 0) := Go.Lib.hid (by rw [HT.out, hz'.out])
     have HN0 : Hid (N = n' + 1 + Mur.padZeros n) := Go.Lib.hid (by rw [HN2.out, hz'.out])
     clear HT HN2 hz'
     go_wp2
     go_loopw [5, 6] (fun v i wr => ∃ (k M : Nat) (T' : List UInt8) (iv : Int), k ≤ 8 ∧ i = .int .i64 iv ∧ Hid (iv = 56 - 8 * (k : Int)) ∧ lenOf v = M ∧ Hid (M = N + k) ∧ M ≤ 200 ∧ Hid (T' = T ++ (lenBytes n).take k) ∧ wr.ownsRow (w.heap.size + 2) 5 1 v M (b8s T') ∧ L2 w (List.replicate 32 0) s' wr)
      (fun _ i _ => (intOf i + 8).toNat)
     case atStart => exact ⟨0, N, T, 56, by omega, rfl, Go.Lib.hid (by omega), rfl, rfl, by omega, Go.Lib.hid (by simp), HO, HL⟩
     case round =>
      clear HO HL HB3
      obtain ⟨k, M, T', iv, hk, rfl, hiv, hv, HM2, hM2, HT, HO, HL⟩ := hrel
      obtain ⟨A3, c3, rfl, hc3, hm3, HB3⟩ := Mur.own_byt HO
      clear hv
      have hsz := HL.2.1
      by_cases hlt : k < 8
      ·obtain rfl : iv = 56 - 8 * (k : Int) := hiv.out
       have hM3 : M ≤ 140 := by have := HM2.out; omega
       obtain ⟨x, hx, hX⟩ : ∃ x : UInt8, Hid (x = Mur.byteBE (8 * n) (56 - 8 * k)) ∧ (n : Int) * 8 / 2 ^ (56 - 8 * k) % 256 = (x.toNat : Int) := ⟨_, rfl, byte_shape n _⟩
       go_wp2_with (at_builtin; refine Mur.wpList_append_byt (w0 := wr) (w.heap.size + 2) rfl (.tmp 35) (.tmp 42) 22 5 rfl Tryz.underlying22 (by kernel_rfl) (.slice A3 M c3) M T' [x] (some ⟨wr.heap.size, 0, none⟩) 1 1 rfl rfl (HO.alloc _) (Mur.Byt_box _ _ _) (fun h => by cases h) ((Below.refl _ _).alloc hsz _) (by simp; omega) (by omega) ?_; intro v4 w4 HO4 HB4 hg4 hat4)
       obtain ⟨A5, c5, rfl, _⟩ := Mur.own_byt HO4
       refine ⟨⟨k + 1, M + 1, T' ++ [x], _, by omega, rfl, Go.Lib.hid (by omega), rfl, Go.Lib.hid (by have := HM2.out; omega), by omega, Go.Lib.hid ?_, HO4, HL.below HB4⟩, by simp [intOf]; omega⟩
       rw [HT.out, hx.out, lenBytes_take n k hlt]
       simp
      ·obtain rfl : k = 8 := by omega
       have hivn : iv < 0 := by have := hiv.out; omega
       go_wp2
       have HM3 : Hid (M % 64 = 0) := Go.Lib.hid (by have := HM2.out; have := HN0.out; have := HM.out; have := (Mur.padZeros_spec n).1; omega)
       have HTl : Hid (T' = Mur.tailOf b) := Go.Lib.hid (by
        rw [HT.out, T0.out, Mur.tailOf_eq, Hl.out]
        have e1 : b.length = n := HB.out.1
        have e2 : n / 64 = j := by have := HN.out; omega
        rw [e1, e2]
        simp [Mur.padEnd, lenBytes])
       have Hj : Hid (j = b.length / 64) := Go.Lib.hid (by
        have e1 : b.length = n := HB.out.1
        rw [e1]; have := HN.out; omega)
       have HB3len : Hid (T'.length = M) := HB3.1
       have HlA : Hid (∀ a, A3 = some a → w.heap.size + 2 ≤ a.block ∧ a.block < wr.heap.size) := Go.Lib.hid (fun a ha => by subst ha; exact HO.lt _ rfl)
       clear HT T0 HN0 HM HM2 hm3 hlt
       obtain ⟨wt, rfl⟩ : ∃ wt : World, wt = wr := ⟨_, rfl⟩
       go_loopw [5] (fun v wq => ∃ (i : Nat) (A' : Option Addr) (n' c' : Nat) (s2 : St) (l : List UInt8), v = .slice A' n' c' ∧ n' ≤ c' ∧ n' ≤ M ∧ Hid (n' + 64 * i = M) ∧ Hid (∀ a, A' = some a → w.heap.size + 2 ≤ a.block ∧ a.block < wt.heap.size) ∧
         Byt wt A' n' l ∧ Hid (l = T'.drop (64 * i)) ∧ Hid (s2 = Mur.blocks s' T' i) ∧ L2 w (List.replicate 32 0) s2 wq ∧ Hid (∀ k, w.heap.size + 2 ≤ k → k < wt.heap.size → wq.heap[k]? = wt.heap[k]?) ∧ wt.heap.size ≤ wq.heap.size)
        (fun v _ => lenOf v)
       case atStart => exact ⟨0, A3, M, c3, s', T', rfl, hc3, Nat.le_refl _, Go.Lib.hid (by omega), HlA, HB3, rfl, rfl, HL, fun _ _ _ => rfl, Nat.le_refl _⟩
       case round =>
        clear HB3 HL HlA HO
        obtain ⟨i, A4, n4, c4, s4, l4, rfl, hnc4, hn4, HN4, HA4, HB4, Hl4, Hs4, HL, HK4, hsz4⟩ := hrel
        have hsz := HL.2.1
        by_cases hlt : 0 < n4
        ·have h64 : 64 ≤ n4 := by have := HN4.out; have := HM3.out; omega
         obtain ⟨g, off, rfl, hc⟩ := HB4.2 (by omega)
         have HC := Go.Lib.hid hc; clear hc
         obtain ⟨hg1, hg2⟩ := HA4.out _ rfl
         have hg3 : g < wr.heap.size := Nat.lt_of_lt_of_le hg2 hsz4
         have hcell : Hid (∀ j, j < 64 → wr.cell? ⟨g, off + j, none⟩ = some (.int .u8 ((l4.getD j 0).toNat : Int))) := fun j hj =>
          (World.cell?_of_block (w := wt) (a := ⟨g, off + j, none⟩) (HK4.out g hg1 hg2)).trans (HC.out j (by omega))
         have HK : Hid (∀ i, i < 64 → wr.cell? ⟨2, i, none⟩ = some (.int .u32 (w32 (Mur.K.getD i 0)))) := Go.Lib.hid (HV.out.below HL.1).1
         have h1 := HV.out.lt
         go_wp2_with (first
          | (refine wpList_load_row rfl 101 (.tmp 3) rfl (w.heap.size + 1) rfl 101 (stCells s4) (0, 0) _ HL.2.2.2 Tryz.underlying101 rfl (by kernel_rfl) ?_)
          | (go_at_call 108; refine (block_cells s4 l4 g off n4 c4 wr HK.out hcell.out h64 (by omega) hg3 (by omega)).mono ?_; rintro e w5 ⟨s5, Hs5, rfl, hB5⟩; have HL5 := HL.below (hB5.mono hsz))
          | (refine wpList_store_row rfl 101 (.tmp 3) (.tmp 51) rfl (w.heap.size + 1) (stCells s5) rfl rfl 101 (stCells s4) HL5.2.2.2 (by kernel_rfl) (by kernel_rfl) (stCells_all _) ?_)
          | (refine Mur.wpList_cut_from rfl 22 (.tmp 47) (.const (.int .i64 64)) rfl 5 Tryz.underlying22 (by kernel_rfl) (some ⟨g, off, none⟩) n4 c4 64 rfl rfl h64 hnc4 ?_))
         refine ⟨⟨i + 1, cutA (some ⟨g, off, none⟩) c4 64, n4 - 64, c4 - 64, s5, l4.drop 64, rfl, by omega, by omega, ?_, ?_, HB4.from_ 64 h64 hnc4, ?_, ?_, HL5.put s5, ?_, ?_⟩, by simp [lenOf]; omega⟩
         ·have := HN4.out
          exact Go.Lib.hid (by omega)
         ·refine Go.Lib.hid (fun a ha => ?_)
          have := Mur.cutA_block ha
          exact this ▸ ⟨hg1, hg2⟩
         ·exact Go.Lib.hid (by rw [Hl4.out, List.drop_drop]; congr 1)
         ·refine Go.Lib.hid ?_
          rw [Hs5.out, Hs4.out, Hl4.out, Mur.blocks_last, Mur.block_take64]
          have := HB4.1
          rw [Hl4.out] at this
          omega
         ·refine Go.Lib.hid (fun k hk1 hk2 => ?_)
          rw [setRow_other _ _ _ _ (by omega), hB5.block k (by omega)]
          exact HK4.out k hk1 hk2
         ·have := hB5.size
          simp
          omega
        ·obtain rfl : n4 = 0 := by omega
         have Hs6 : Hid (s4 = Mur.blocks (Mur.blocks Mur.H0 b (b.length / 64)) (Mur.tailOf b) ((Mur.tailOf b).length / 64)) := Go.Lib.hid (by
          have e : i = (Mur.tailOf b).length / 64 := by
           have h1 := HB3len.out
           have := HN4.out
           rw [← HTl.out, h1]
           omega
          rw [Hs4.out, Hs.out, Hj.out, HTl.out, e])
         have HD : Hid (Mur.dig s4 = Mur.sha b) := Go.Lib.hid (by rw [Hs6.out, ← Mur.sha_two])
         clear Hs6 HK4 HB4 Hl4 Hs4 HA4 HN4
         go_wp2
         go_loopw [52] (fun t wq => ∃ i : Nat, i ≤ 32 ∧ t = .int .i64 i ∧ L2 w (digTo s4 i) s4 wq) (fun t _ => 32 - (intOf t).toNat)
         case atStart => exact ⟨0, by omega, rfl, HL⟩
         case round =>
          clear HL
          obtain ⟨q, hq, rfl, HL⟩ := hrel
          by_cases hlt : q < 32
          ·have cs := cell_u32s (l := s4.toList) (i := q / 4) HL.2.2.2 (by show q / 4 < 8; omega)
           have cd := Mur.cell_b8s (i := q) HL.2.2.1 (by rw [digTo_length]; exact hlt)
           have fd := free_row (i := q) HL.2.2.1
           go_wp2
           refine ⟨⟨q + 1, by omega, by go_num, ?_⟩, by simp [intOf]; omega⟩
           rw [dig_shape, digTo_succ s4 q hlt]
           exact HL.setD _ _
          ·obtain rfl : q = 32 := by omega
           have hz : (b8s (digTo s4 32)).toArray.size = 32 := by rw [List.size_toArray, Mur.b8s_length, digTo_length]
           have hd : digTo s4 32 = Mur.dig s4 := digTo_all s4
           go_wp2_with (first
            | (refine wpList_load_row rfl 28 (.tmp 2) rfl w.heap.size rfl 28 (b8s (digTo s4 32)).toArray (0, 0) _ HL.2.2.1 Tryz.underlying28 rfl (by rw [hz]; kernel_rfl) ?_)
            | (refine wpList_store_row rfl 28 (.tmp 2) (.tmp 68) rfl w.heap.size (b8s (digTo s4 32)).toArray rfl rfl 28 (b8s (digTo s4 32)).toArray HL.2.2.1 (by rw [hz]; kernel_rfl) rfl (Mur.b8s_all _) ?_))
           refine bodyPost_ret (v := .agg (b8s (digTo s4 32)).toArray) (results_cell_row rfl _ _ w.heap.size 28 (b8s (digTo s4 32)).toArray (0, 0) _ rfl (setRow_heap _ _ _ _ _ _ HL.2.2.1) Tryz.underlying28 rfl (by rw [hz]; kernel_rfl)) rfl ⟨?_, below_setRow HL.1 (by omega) _⟩
           rw [hd, HD.out]
           rfl
theorem dgV_size {d : List UInt8} (h : d.length = 32) : (b8s d).toArray.size = 32 := by rw [List.size_toArray, Mur.b8s_length, h]
theorem sha_length (b : List UInt8) : (Mur.sha b).length = 32 := dig_length _
theorem sum_var (b : List UInt8) (A : Option Addr) (n c : Nat) (w : World) (hv : ShaVars w) (hb : Byt w A n b) (hnc : n ≤ c) (hA : A = none → c = 0) (hn : n ≤ 140737488351232) :
  Calls Tryz.prog 98 #[.slice A n c] w fun e w' => ∃ d, Hid (d = Mur.sha b) ∧ d.length = 32 ∧ e = .returned (.agg (b8s d).toArray) ∧ Below w.heap.size w w' :=
 (sum_any b A n c w hv hb hnc hA hn).mono fun _ _ ⟨h1, h2⟩ => ⟨_, rfl, sha_length b, h1, h2⟩
end Go.Proofs.YtgbadghjnpbiaaaGreatDoor
namespace Mur
open Go Go.RowKit Go.WideShapes Go.ChangeShapes
section
variable {H : Type} {enc : TypeId × Value → H} {P : Program}
theorem all_stay (hl : laidOutB P = true) {W W' : World} {sp' : Nat → Bool} : ∀ {ts : List TypeId} {vs : List Value} {ds : List (DataW H)} {ps : List MemPlace}, (∀ t ∈ ts, P.readableRec t = true ∧ t < P.types.size) →
  DataW.TrodAll enc P W 0 (fun _ => true) true ts vs ds ps → (∀ p ∈ ps, W.sameAt W' p) → (∀ p ∈ ps, sp' p.block = true) → DataW.TrodAll enc P W' 0 sp' true ts vs ds ps
 | [], [], [], _, _, h, _, _ => h
 | t :: ts, v :: vs, d :: ds, ps, hr, ⟨p, q, h1, h2, e⟩, hsame, hs =>
  ⟨p, q, WideElems.Trod_stays hl (hr t (by simp)).1 (hr t (by simp)).2 h1 (fun x hx => hsame x (by rw [e]; exact List.mem_append_left _ hx)) (fun x hx => hs x (by rw [e]; exact List.mem_append_left _ hx)),
   all_stay hl (fun t ht => hr t (by simp [ht])) h2 (fun x hx => hsame x (by rw [e]; exact List.mem_append_right _ hx)) (fun x hx => hs x (by rw [e]; exact List.mem_append_right _ hx)), e⟩
theorem law_post (hl : laidOutB P = true) {f : Func} {s : ChangeSpec} {fresh again : Bool} {W W' : World} {args : Array Value} {ds : List (DataW H)} {before : List MemPlace} {tb : TypeId}
  (hf : f.resultTypes = #[tb]) (hb : P.underlying tb = some .bool) (hp : ∀ t ∈ f.params.toList, P.readableRec t = true ∧ t < P.types.size) (hv : s.vars = [])
  (hs : s.fn H ds = { results := [.lit (.bool true)], args := ds }) (hW : DataW.Whole enc P f.params.toList s.vars false W args.toList ds [] before) (hB : Below W.heap.size W W') :
  s.post enc P f false fresh false again W args (.bool true) W' := by
 have hlt : ∀ p ∈ before, p.block < W.heap.size := fun p hp => hW.lt p hp
 have hW' := hW
 obtain ⟨p, q, hA, hV, hpq, hz, hn⟩ := hW
 rw [hv] at hV
 obtain ⟨_, rfl⟩ := trodVars_none hV
 rw [List.append_nil] at hpq
 subst hpq
 have hsame : ∀ x ∈ before, W.sameAt W' x := fun x hx => hB.same (hlt x hx)
 have hagain : ∀ sp : Nat → Bool, (∀ x ∈ before, sp x.block = true) → DataW.TrodAll enc P W' 0 sp true f.params.toList args.toList ds before := fun sp hsp => all_stay hl hp hA hsame hsp
 have hres : ∀ (b : Nat) (sp : Nat → Bool) (hd : Bool), DataW.TrodAll enc P W' b sp hd [tb] [.bool true] [.lit (.bool true)] [] := fun b sp hd => trodAll_cons_mk (shut_bool hb _) trodAll_mk0
 have e1 : f.resultTypes.toList = [tb] := by rw [hf]
 have e2 : (Value.bool true).resultList f.resultTypes.size = [.bool true] := by rw [hf]; rfl
 refine ⟨ds, [], before, [], before, [], hW', ?_, ?_, ?_, World.keptBut_mono (fun x hx => ⟨hx, .inr (.inl hx)⟩) (hB.frame (· ∈ before)), fun _ => ?_⟩
 ·rw [List.append_nil, hs, e1, e2]
  exact hres _ _ _
 ·rw [List.append_nil, hs]
  exact hagain _ (fun x hx => by simpa using hlt x hx)
 ·rw [List.append_nil, hs, hv]
  rfl
 ·refine ⟨fun j t r h1 h2 => ?_, .lit (.bool true) :: ds, [], before, ⟨before, [], ?_, ?_, by simp, ?_, ?_⟩, fun x hx _ => hx⟩
  ·rw [hf] at h1
   rw [e2] at h2
   obtain ⟨rfl, rfl⟩ : j = 0 ∧ t = tb := by
    rcases j with _ | j
    ·exact ⟨rfl, by simpa using h1.symm⟩
    ·simp at h1
   obtain rfl : r = .bool true := by simpa using h2.symm
   exact okWide_bool_mk hb _
  ·rw [e1, e2]
   exact ⟨[], before, shut_bool hb _, hagain (fun _ => true) (fun _ _ => rfl), rfl⟩
  ·rw [hv]
   rfl
  ·intro b off hx
   have hx' : MemPlace.cell b off ∈ before := hx
   rw [hB.frozen (hlt _ hx')]
   exact hz b off hx'
  ·intro ha
   cases ha
theorem open_byt {t e : TypeId} {W : World} {v : Value} {d : DataW H} {ps : List MemPlace} (ht : P.underlying t = some (.slice e)) (he : P.underlying e = some (.int .u8)) (hc : P.cellsOf e = 1) (hval : ∃ r b0, Value.okWide P W r b0 t v)
  (h : DataW.Trod enc P W 0 (fun _ => true) true t v d ps) : ∃ A n c l, v = .slice A n c ∧ n ≤ c ∧ c ≤ maxLen ∧ (A = none → c = 0) ∧ Byt W A n l := by
 obtain ⟨fuel, hf⟩ := h
 have hv : v.cells.toList = [v] := by
  obtain ⟨r, b0, hok⟩ := hval
  cases v <;> first | rfl | (exfalso; simp [Value.okWide, ht, Cell.okWide, Cell.ok] at hok)
 rw [hv] at hf
 rcases open_ints ht he hc hf with ⟨h0, _⟩ | ⟨a, len, cap, zs, h0, _, hlc, hcm, hlen, _, hcell, hwf⟩
 ·obtain rfl : v = .slice none 0 0 := by simpa using h0
  exact ⟨none, 0, 0, [], rfl, Nat.le_refl _, by omega, fun _ => rfl, Byt.nil _ _⟩
 ·obtain rfl : v = .slice (some a) len cap := by simpa using h0
  simp only [if_true] at hlen
  refine ⟨some a, len, cap, (zs.take len).map (fun z => UInt8.ofNat z.toNat), rfl, hlc, hcm, (fun h => by cases h), (by simp; omega), fun hp => ?_⟩
  obtain ⟨g, off, rfl, hc2⟩ := ints_at hcell (by omega)
  refine ⟨g, off, rfl, fun j hj => ?_⟩
  rw [hc2 j (by omega)]
  have hr := range_u8 hwf j
  have hjz : j < zs.length := by omega
  simp only [List.getElem?_eq_getElem hjz, Option.getD_some] at hr
  simp [List.getD_eq_getElem?_getD, hj, hjz]
  omega
end
end Mur
namespace Go.Proofs.YtgbadghjnpbiaaaGreatDoor
open Go.RowKit Go.WideShapes Go.ChangeShapes
open Mur (St w32 u32s b8s Byt)
theorem own : ownKnob Tryz.prog.godebug = none := by kernel_rfl
theorem laidOut : laidOutB Tryz.prog = true := by kernel_rfl
theorem gK : Tryz.prog.globalNamed "murmuration/sha.k" = some 2 := by kernel_rfl
theorem gF : Tryz.prog.globalNamed "murmuration/sha.first" = some 0 := by kernel_rfl
theorem gKt : (Tryz.prog.globals[2]?).map (·.type) = some 102 := by kernel_rfl
theorem gFt : (Tryz.prog.globals[0]?).map (·.type) = some 101 := by kernel_rfl
theorem c64 : Tryz.prog.cellsOf 102 = 64 := by kernel_rfl
theorem c8 : Tryz.prog.cellsOf 101 = 8 := by kernel_rfl
theorem c32 : Tryz.prog.cellsOf 100 = 1 := by kernel_rfl
theorem cB : Tryz.prog.cellsOf 5 = 1 := by kernel_rfl
theorem second {name : String} {k : IntKind} {zs : List Int} {x : String × DataW Unit} {P : Program} {W : World} {g : Nat} {t e : TypeId} {n : Nat}
  (hg : P.globalNamed name = some g) (hty : (P.globals[g]?).map (·.type) = some t) (ht : P.underlying t = some (.array n e)) (he : P.underlying e = some (.int k)) (hce : P.cellsOf e = 1) (hct : P.cellsOf t = n)
  (h : laidMet P [x, (name, Lib.tabData k zs)] W) : Lib.TabIs P W name k zs := by
 obtain ⟨_, ⟨_, _, _, _, _, _, _, _, _, _, ⟨g', t', cs, fuel, p, q, hg', ht', hvar, hd, _, _⟩, _⟩, _⟩ := h
 obtain rfl := Option.some.inj (hg.symm.trans hg')
 obtain rfl := Option.some.inj (hty.symm.trans ht')
 unfold Lib.TabIs
 rw [hvar, ← Lib.cells_of_tab ht he hce hct hd]
def numsOf (l : List UInt32) : List Int := l.map fun x => (x.toNat : Int)
theorem laidK : (Rows.laid_murmuration_sha_k : DataW Unit) = Lib.tabData .u32 (numsOf Mur.K) := by kernel_rfl
theorem laidF : (Rows.laid_murmuration_sha_first : DataW Unit) = Lib.tabData .u32 (numsOf Mur.H0.toList) := by kernel_rfl
theorem shaVars {W : World} (h : laidMetH Tryz.prog [("murmuration/sha.k", Rows.laid_murmuration_sha_k), ("murmuration/sha.first", Rows.laid_murmuration_sha_first)] W) : ShaVars W := by
 have h' : laidMet Tryz.prog [("murmuration/sha.k", Rows.laid_murmuration_sha_k), ("murmuration/sha.first", Rows.laid_murmuration_sha_first)] W := h
 rw [laidK, laidF] at h'
 have h1 := Lib.tabIs_of_head gK gKt Tryz.underlying102 Tryz.underlying100 c32 c64 h'
 have h2 := second gF gFt Tryz.underlying101 Tryz.underlying100 c32 c8 h'
 refine ⟨fun i hi => ?_, fun i hi => ?_⟩
 ·have hl : i < Mur.K.length := by rw [Mur.K_length]; exact hi
  rw [h1.cell gK i (by simpa [numsOf] using hl)]
  simp [numsOf, w32, List.getD_eq_getElem?_getD, hl]
 ·have hl : i < Mur.H0.toList.length := hi
  rw [h2.cell gF i (by simpa [numsOf] using hl)]
  simp [numsOf, w32, List.getD_eq_getElem?_getD, hl]
def laidCells (cs : Array Value) : Obj → Obj
 | .cells _ t frozen => .cells cs t frozen
 | o => o
noncomputable def laidWorld (os : Os) : World :=
 { World.holding Tryz.prog os ⟨#[], #[], []⟩ with
  heap := ((World.holding Tryz.prog os ⟨#[], #[], []⟩).heap.modify 2 (laidCells ((numsOf Mur.K).map fun z => Value.int .u32 z).toArray)).modify 0 (laidCells ((numsOf Mur.H0.toList).map fun z => Value.int .u32 z).toArray) }
end Go.Proofs.YtgbadghjnpbiaaaGreatDoor
namespace Mur
open Go Go.RowKit
inductive All2 {α β : Type} (R : α → β → Prop) : List α → List β → Prop
 | nil : All2 R [] []
 | cons {a b l m} : R a b → All2 R l m → All2 R (a :: l) (b :: m)
theorem All2.length {α β : Type} {R : α → β → Prop} : ∀ {l : List α} {m : List β}, All2 R l m → l.length = m.length
 | _, _, .nil => rfl
 | _, _, .cons _ h => by simp [h.length]
theorem All2.append {α β : Type} {R : α → β → Prop} : ∀ {l l' : List α} {m m' : List β}, All2 R l m → All2 R l' m' → All2 R (l ++ l') (m ++ m')
 | _, _, _, _, .nil, k => k
 | _, _, _, _, .cons r h, k => .cons r (h.append k)
theorem All2.imp {α β : Type} {R R' : α → β → Prop} (hr : ∀ a b, R a b → R' a b) : ∀ {l : List α} {m : List β}, All2 R l m → All2 R' l m
 | _, _, .nil => .nil
 | _, _, .cons r h => .cons (hr _ _ r) (h.imp hr)
section
variable (P : Program)
def leafsS (rec : TypeId → Option (List TypeId)) : Nat → List Field → Option (List TypeId)
 | _, [] => some []
 | o, f :: fs => if f.offset = o then (rec f.type).bind fun l => if P.cellsOf f.type = l.length then (leafsS rec (o + l.length) fs).map (l ++ ·) else none else none
def leafs : Nat → TypeId → Option (List TypeId)
 | 0, _ => none
 | d + 1, t => match P.underlying t with
  | some (.struct fs) => (leafsS P (leafs d) 0 fs.toList).bind fun l => if P.cellsOf t = l.length then some l else none
  | some (.array n e) => (leafs d e).bind fun l => if P.cellsOf e = l.length ∧ P.cellsOf t = n * l.length then some (List.replicate n l).flatten else none
  | some _ => if P.cellsOf t = 1 then some [t] else none
  | none => none
end
section
variable {H : Type} {enc : TypeId × Value → H} {P : Program} {w : World} {base : Nat} {spare : Nat → Bool} {held : Bool}
def Leaf (enc : TypeId × Value → H) (P : Program) (w : World) (base : Nat) (spare : Nat → Bool) (held : Bool) (t : TypeId) (v : Value) : Prop := ∃ m y, DataW.trod enc P w base spare held m t [v] = some y
theorem leaf_int {t : TypeId} {k : IntKind} {v : Value} (ht : P.underlying t = some (.int k)) (h : Leaf enc P w base spare held t v) : ∃ n, v = .int k n ∧ (Lit.int k n).wf = true := by
 obtain ⟨m, y, h⟩ := h
 obtain ⟨n, e, _, hw⟩ := DataW.trod_int ht h
 exact ⟨n, by simpa using e, hw⟩
theorem leaf_bool {t : TypeId} {v : Value} (ht : P.underlying t = some .bool) (h : Leaf enc P w base spare held t v) : ∃ b, v = .bool b := by
 obtain ⟨m, y, h⟩ := h
 obtain ⟨b, e, _⟩ := DataW.trod_bool ht h
 exact ⟨b, by simpa using e⟩
theorem leafsS_ok {rec : TypeId → Option (List TypeId)} (hrec : ∀ t ls, rec t = some ls → ∀ fuel cs x, DataW.trod enc P w base spare held fuel t cs = some x → All2 (Leaf enc P w base spare held) ls cs) {m : Nat} {cs : List Value} :
  ∀ (fs : List Field) (o : Nat) (ls : List TypeId), leafsS P rec o fs = some ls → (∀ f ∈ fs, ∃ x, DataW.trod enc P w base spare held m f.type ((cs.drop f.offset).take (P.cellsOf f.type)) = some x) → cs.length = o + ls.length → All2 (Leaf enc P w base spare held) ls (cs.drop o)
 | [], o, ls, h, _, hl => by
  obtain rfl : ls = [] := by simpa [leafsS] using h.symm
  rw [List.drop_of_length_le (by simp at hl; omega)]
  exact .nil
 | f :: fs, o, ls, h, hf, hl => by
  simp only [leafsS] at h
  split at h
  ·rename_i ho
   obtain ⟨l, h1, h2⟩ := Option.bind_eq_some_iff.1 h
   split at h2
   ·rename_i hc
    obtain ⟨l', h3, rfl⟩ := Option.map_eq_some_iff.1 h2
    obtain ⟨x, hx⟩ := hf f (by simp)
    have a1 := hrec _ _ h1 _ _ _ hx
    rw [List.length_append] at hl
    have a2 := leafsS_ok hrec fs (o + l.length) l' h3 (fun g hg => hf g (by simp [hg])) (by omega)
    rw [ho, hc] at a1
    have e : cs.drop o = (cs.drop o).take l.length ++ cs.drop (o + l.length) := by rw [← List.drop_drop, List.take_append_drop]
    rw [e]
    exact a1.append a2
   ·cases h2
  ·cases h
theorem chunks_ok {R : TypeId → Value → Prop} {l : List TypeId} {cs : List Value} : ∀ (n o : Nat), (∀ i, i < n → All2 R l ((cs.drop (o + i * l.length)).take l.length)) → cs.length = o + n * l.length → All2 R (List.replicate n l).flatten (cs.drop o)
 | 0, o, _, hl => by
  rw [List.drop_of_length_le (by simp at hl; omega)]
  exact .nil
 | n + 1, o, h, hl => by
  have a1 := h 0 (by omega)
  rw [Nat.zero_mul, Nat.add_zero] at a1
  have a2 := chunks_ok (R := R) (l := l) (cs := cs) n (o + l.length) (fun i hi => by
   have := h (i + 1) (by omega)
   rwa [show o + (i + 1) * l.length = o + l.length + i * l.length by rw [Nat.add_mul]; omega] at this) (by rw [hl, Nat.add_mul]; omega)
  rw [List.replicate_succ, List.flatten_cons]
  have e : cs.drop o = (cs.drop o).take l.length ++ cs.drop (o + l.length) := by rw [← List.drop_drop, List.take_append_drop]
  rw [e]
  exact a1.append a2
theorem leafs_ok : ∀ (d : Nat) (t : TypeId) (ls : List TypeId), leafs P d t = some ls → ∀ fuel cs x, DataW.trod enc P w base spare held fuel t cs = some x → All2 (Leaf enc P w base spare held) ls cs
 | 0, _, _, h, _, _, _, _ => by cases h
 | d + 1, t, ls, h, fuel, cs, x, hx => by
  unfold leafs at h
  split at h
  ·rename_i fs hu
   obtain ⟨l, h1, h2⟩ := Option.bind_eq_some_iff.1 h
   split at h2
   ·rename_i hc
    obtain rfl := Option.some.inj h2
    obtain ⟨xs, m, _, _, hl, hlen, hf⟩ := DataW.trod_struct hu hx
    have := leafsS_ok (leafs_ok d) (m := m) (cs := cs) fs.toList 0 l h1 (fun f hfm => by
     obtain ⟨i, hi, e⟩ := List.getElem_of_mem hfm
     have hi' : i < xs.length := by rw [hlen]; simpa using hi
     have h3 := hf i f (by rw [← Array.getElem?_toList, List.getElem?_eq_getElem hi, e])
     exact ⟨xs[i], by rw [h3, List.getElem?_eq_getElem hi']⟩) (by omega)
    simpa using this
   ·cases h2
  ·rename_i n e hu
   obtain ⟨l, h1, h2⟩ := Option.bind_eq_some_iff.1 h
   split at h2
   ·rename_i hc
    obtain rfl := Option.some.inj h2
    obtain ⟨xs, m, _, _, hl, hlen, hf⟩ := DataW.trod_array hu hx
    have := chunks_ok (R := Leaf enc P w base spare held) (l := l) (cs := cs) n 0 (fun i hi => by
     have h3 := hf i hi
     rw [hc.1] at h3
     rw [Nat.zero_add]
     exact leafs_ok d e l h1 m _ xs[i] (by rw [h3, List.getElem?_eq_getElem (by omega)])) (by omega)
    simpa using this
   ·cases h2
  ·rename_i hu
   split at h
   ·obtain rfl := Option.some.inj h
    have hlen : ∃ v, cs = [v] := by
     cases fuel with
     | zero => simp [DataW.trod] at hx
     | succ m =>
      unfold DataW.trod at hx
      rw [hu] at hx
      split at hx <;> simp_all
    obtain ⟨v, rfl⟩ := hlen
    exact .cons ⟨_, _, hx⟩ .nil
   ·cases h
  ·cases h
theorem rows_decode {α : Type} (enc' : α → List Value) : ∀ rows : List (List Value), (∀ r ∈ rows, ∃ p, r = enc' p) → ∃ l : List α, rows = l.map enc'
 | [], _ => ⟨[], rfl⟩
 | r :: rows, h => by
  obtain ⟨p, rfl⟩ := h r (by simp)
  obtain ⟨l, rfl⟩ := rows_decode enc' rows fun x hx => h x (by simp [hx])
  exact ⟨p :: l, rfl⟩
theorem open_rows {t e : TypeId} {v : Value} {d : DataW H} {ps : List MemPlace} (D : Nat) (ls : List TypeId) (ht : P.underlying t = some (.slice e)) (hl : leafs P D e = some ls) (hc : P.cellsOf e = ls.length) (hpos : 0 < ls.length) (hval : v.cells.toList = [v])
  (h : DataW.Trod enc P w 0 (fun _ => true) true t v d ps) :
  ∃ (A : Option Addr) (n c : Nat) (rows : List (List Value)), v = .slice A n c ∧ n ≤ c ∧ c ≤ maxLen ∧ (A = none → c = 0) ∧ rows.length = n ∧ (∀ r ∈ rows, All2 (Leaf enc P w 0 (fun _ => true) true) ls r) ∧
   (0 < n → ∃ g off, A = some ⟨g, off, none⟩ ∧ ∀ i r, rows[i]? = some r → w.rangeAt g (off + i * ls.length) r) := by
 obtain ⟨fuel, hf⟩ := h
 rw [hval] at hf
 rcases Deep.open_slice ht hf with ⟨h0, _⟩ | ⟨a, len, cap, m, n, D', Pl, h0, _, hlc, hcm, hm, _, hx⟩
 ·obtain rfl : v = .slice none 0 0 := by simpa using h0
  exact ⟨none, 0, 0, [], rfl, Nat.le_refl _, by unfold maxLen; omega, fun _ => rfl, rfl, by simp, fun h => absurd h (by omega)⟩
 ·obtain rfl : v = .slice (some a) len cap := by simpa using h0
  simp only [if_true] at hm
  subst hm
  have hch : ∀ i, i < len → ∃ cs' : List Value, w.cells? 0 (a.add (i * P.cellsOf e)) (P.cellsOf e) = some cs' ∧ All2 (Leaf enc P w 0 (fun _ => true) true) ls cs' := fun i hi => by
   obtain ⟨cs', h1, h2⟩ := hx i (by omega)
   exact ⟨cs', h1, leafs_ok D e ls hl _ _ _ h2⟩
  obtain ⟨R, hR⟩ := Deep.choose_lt (α := List Value) (p := fun i cs' => w.cells? 0 (a.add (i * P.cellsOf e)) (P.cellsOf e) = some cs' ∧ All2 (Leaf enc P w 0 (fun _ => true) true) ls cs') hch
  refine ⟨some a, len, _, (List.range len).map R, rfl, hlc, hcm, (fun h => by cases h), by simp, ?_, fun hp => ?_⟩
  ·intro r hr
   obtain ⟨i, hi, rfl⟩ := List.mem_map.1 hr
   exact (hR i (by simpa using hi)).2
  ·have hsp : a.spot = none := by
    obtain ⟨h1, h2⟩ := hR 0 hp
    obtain ⟨_, h4, h5⟩ := World.cells?_some h1
    have h6 := h5 0 (by rw [hc]; exact hpos)
    have hl2 : (R 0).length = ls.length := h2.length.symm
    rw [List.getElem?_eq_getElem (by rw [hl2]; exact hpos)] at h6
    have e : (a.add (0 * P.cellsOf e)).add 0 = a := by simp [Addr.add]
    rw [e] at h6
    unfold World.cell? at h6
    split at h6
    ·split at h6
     ·cases h6
     ·rename_i hq
      simpa using hq
    ·cases h6
   obtain ⟨g, off, sp⟩ := a
   obtain rfl : sp = none := hsp
   refine ⟨g, off, rfl, fun i r hr j u hu => ?_⟩
   have hi : i < len := by
    have := (List.getElem?_eq_some_iff.1 hr).1
    simpa using this
   obtain rfl : R i = r := by simpa [hi] using hr
   obtain ⟨h1, h2⟩ := hR i hi
   obtain ⟨_, h4, h5⟩ := World.cells?_some h1
   have hj : j < (R i).length := (List.getElem?_eq_some_iff.1 hu).1
   have h6 := h5 j (by omega)
   rw [Addr.add_mid, Addr.add_mid, hc] at h6
   rw [h6, hu]
end
end Mur
namespace Mur
open Go Go.RowKit
structure Wrote (g : Nat) (w w' : World) : Prop where
 os : w'.os = w.os
 tape : w'.tape = w.tape
 output : w'.output = w.output
 size : w'.heap.size = w.heap.size
 block : ∀ k, k ≠ g → w'.heap[k]? = w.heap[k]?
theorem Wrote.below {g B : Nat} {w w' : World} (h : Wrote g w w') (hB : B ≤ g) : Below B w w' := ⟨h.os, h.tape, h.output, Nat.le_of_eq h.size.symm, fun k hk => h.block k (by omega)⟩
theorem Wrote.hp {g k : Nat} {w w' : World} {o : Obj} (h : Wrote g w w') (hk : k ≠ g) (hc : w.heap[k]? = some o) : w'.heap[k]? = some o := (h.block k hk).trans hc
theorem wrote_setRow (w : World) (g : Nat) (cs : Array Value) : Wrote g w (w.setRow g cs) := ⟨rfl, rfl, rfl, by simp, fun k hk => setRow_other w g k cs hk⟩
section
variable {P : Program} {ops : Array Oper} {rest : List Oper} {o : Oper} {a : Act} {Q : Exit → Act → World → Prop} {w : World}
theorem wpList_put (hgd : o.guard = none) (ty : TypeId) (x y : Operand) (ho : o.op = .store ty x y)
  (g : Nat) (cells : Array Value) (hx : a.eval x = .pointer (some ⟨g, 0, none⟩)) (hy : a.eval y = .agg cells)
  (t : TypeId) (old : Array Value) (hg : w.heap[g]? = some (.cells old t (0, 0))) (hi : (P.info? ty).map (·.size) = some cells.size)
  (hold : old.size = cells.size) (h1 : cells.all (·.oneCell') = true)
  (h : ∀ w', w'.heap[g]? = some (.cells cells t (0, 0)) → Wrote g w w' → wpList P ops Q rest (a.put o.dst undef) w') : wpList P ops Q (o :: rest) a w :=
 wpList_store_row hgd ty x y ho g cells hx hy t old hg hi hold h1 (h _ (setRow_heap _ _ _ _ _ _ hg) (wrote_setRow _ _ _))
end
end Mur
namespace Mur
open Go Go.RowKit
section
variable {P : Program} {ops : Array Oper} {rest : List Oper} {o : Oper} {a : Act} {Q : Exit → Act → World → Prop}
theorem wpList_append_box {w0 W : World} (base : Nat) (hgd : o.guard = none) (s x : Operand) (t e : TypeId) (z : Value) (bytes : Nat)
  (ho : o.op = .call { callee := .builtin .append, args := #[s, x], argTypes := #[t, t] })
  (ht : P.underlying t = some (.slice e)) (hinfo : (P.info? e).map (fun i => (i.zero, i.size, i.bytes)) = some (some z, 1, bytes)) (hz : z.cells.size = 1) (hb0 : 0 < bytes)
  (v : Value) (n : Nat) (xs : List Value) (y : Value) (hs : a.eval s = v) (hx : a.eval x = .slice (some ⟨W.heap.size, 0, none⟩) 1 1) (h1 : y.oneCell' = true)
  (HO : W.ownsRow base e 1 v n xs) (HB : Below base w0 W) (hbase : base ≤ W.heap.size) (hl : (n + 1) * bytes ≤ 140737488355328)
  (h : ∀ v1 w1, w1.ownsRow base e 1 v1 (n + 1) (xs ++ [y]) → Below base w0 w1 → W.grownBy w1 v.ownBlock → (v1.ownBlock = v.ownBlock ∨ ∃ b, v1.ownBlock = some b ∧ W.heap.size ≤ b) → wpList P ops Q rest (a.put o.dst v1) w1) :
  wpList P ops Q (o :: rest) a (W.alloc (.cells #[y] e)) := by
 obtain ⟨i0, hi, hzz⟩ := Option.map_eq_some_iff.1 hinfo
 simp only [Prod.mk.injEq] at hzz
 obtain ⟨hz0, hz1, hz2⟩ := hzz
 have hlen : n + 1 ≤ 140737488355328 := Nat.le_trans (Nat.le_mul_of_pos_right _ hb0) hl
 refine wpList_append_own_at (W.alloc (.cells #[y] e)) hgd s x t ho base e i0 z 1 bytes ht hi hz0 hz1 hz2 hz (by omega) v n xs hs (HO.alloc _) ⟨W.heap.size, 0, none⟩ 1 1 [y] hx rfl
  (World.news_of_block (cs := #[y]) (t := e) (fr := (0, 0)) (heap_alloc_new W _)) (by simpa using h1) (by simp only [maxLen]; omega) hl (by simp; omega) ?_
 intro v1 w1 hown hg _ hat
 refine h v1 w1 hown ((HB.alloc hbase _).grown hg (by simp; omega) (fun k hk => (HO.lt k hk).1)) ((World.grownBy_alloc W _ _).trans hg) ?_
 rcases hat with hat | hat
 ·exact .inl hat
 ·exact .inr ⟨_, hat, by simp⟩
theorem wpQuiet_load_row {C : World → Prop} {Q : Act → Prop} (hgd : o.guard = none) (ty : TypeId) (x : Operand) (ho : o.op = .load ty x)
  (g : Nat) (hx : a.eval x = .pointer (some ⟨g, 0, none⟩)) (t : TypeId) (cs : Array Value) (fr : Nat × Nat) (d : TypeDesc) (hg : ∀ w, C w → w.heap[g]? = some (.cells cs t fr))
  (hu : P.underlying ty = some d) (hd : (match d with | .struct _ | .array _ _ => true | _ => false) = true) (hi : (P.info? ty).map (·.size) = some cs.size)
  (h : wpQuiet P ops C Q rest (a.put o.dst (.agg cs))) : wpQuiet P ops C Q (o :: rest) a := by
 refine BigFrame.wpQuiet_want (by simp [Region.wanted, hgd]) fun K hK => ⟨.agg cs, fun w hw => ?_, hK _ h⟩
 unfold Oper.quietAt execOp
 simp only [ho, hx, Instr.loadAt, Instr.sureAddr, Sem.run_bind, Sem.run_pure, Result.andThen_ok, run_loadVar_row w g t ty cs fr d (hg w hw) hu hd hi]
 exact ⟨rfl, rfl⟩
theorem yieldsIf_load_row {S : World → Prop} (hgd : o.guard = none) (ty : TypeId) (x : Operand) (ho : o.op = .load ty x)
  (g : Nat) (hx : a.eval x = .pointer (some ⟨g, 0, none⟩)) (t : TypeId) (cs : Array Value) (fr : Nat × Nat) (d : TypeDesc) (hg : ∀ w, S w → w.heap[g]? = some (.cells cs t fr))
  (hu : P.underlying ty = some d) (hd : (match d with | .struct _ | .array _ _ => true | _ => false) = true) (hi : (P.info? ty).map (·.size) = some cs.size) : YieldsIf P ops S o (.agg cs) a :=
 .inl ⟨by simp [Region.wanted, hgd], fun w hw => by
  unfold execOp
  simp only [ho, hx, Instr.loadAt, Instr.sureAddr, Sem.run_bind, Sem.run_pure, Result.andThen_ok, run_loadVar_row w g t ty cs fr d (hg w hw) hu hd hi]⟩
theorem wpOp_of_wp {i : Nat} {K : Act → World → Prop} {w : World} (hi : ops[i]? = some o) (hgd : o.guard = none) (h : o.wp P a w K Q) : wpOp P ops Q i K a w := by
 unfold wpOp
 simp only [hi]
 rw [if_pos (by simp [Region.wanted, hgd])]
 exact .inl h
theorem wpOp_put {i : Nat} {K : Act → World → Prop} {w : World} (hi : ops[i]? = some o) (hgd : o.guard = none) (ty : TypeId) (x y : Operand) (ho : o.op = .store ty x y)
  (g : Nat) (cells : Array Value) (hx : a.eval x = .pointer (some ⟨g, 0, none⟩)) (hy : a.eval y = .agg cells)
  (t : TypeId) (old : Array Value) (hg : w.heap[g]? = some (.cells old t (0, 0))) (hi' : (P.info? ty).map (·.size) = some cells.size)
  (hold : old.size = cells.size) (h1 : cells.all (·.oneCell') = true)
  (h : ∀ w', w'.heap[g]? = some (.cells cells t (0, 0)) → Wrote g w w' → K (a.put o.dst undef) w') : wpOp P ops Q i K a w :=
 wpOp_of_wp hi hgd (wp_store_row ty x y ho g cells hx hy t old hg hi' hold h1 (h _ (setRow_heap _ _ _ _ _ _ hg) (wrote_setRow _ _ _)))
theorem wpAnyH_one {md : Region.Mode} {S : World → Prop} {k fuel : Nat} {listed : Array Bool} {w : World} (hr : Region.ready md ops listed = [k])
  (h : wpOp P ops Q k (fun a' w' => S w' ∧ wpAnyH P md ops Q S fuel (listed.setIfInBounds k true) a' w') a w) : wpAnyH P md ops Q S (fuel + 1) listed a w :=
 wpAnyH_all hr (by simp) fun i hi => by
  obtain rfl : i = k := by simpa using hi
  exact h
theorem results_cell_row2 {fn : Func} {p q : Tmp} {ty uy : TypeId} (h : fn.results = #[.cell p ty, .cell q uy]) (tmps : Array Value) (w : World) (g : Nat) (t : TypeId) (cs : Array Value) (fr : Nat × Nat) (d : TypeDesc)
  (k : Nat) (t' : TypeId) (cs' : Array Value) (fr' : Nat × Nat) (d' : TypeDesc)
  (hp : tmps.getD p undef = .pointer (some ⟨g, 0, none⟩)) (hg : w.heap[g]? = some (.cells cs t fr)) (hq : tmps.getD q undef = .pointer (some ⟨k, 0, none⟩)) (hk : w.heap[k]? = some (.cells cs' t' fr'))
  (hu : P.underlying ty = some d) (hd : (match d with | .struct _ | .array _ _ => true | _ => false) = true) (hi : (P.info? ty).map (·.size) = some cs.size)
  (hu' : P.underlying uy = some d') (hd' : (match d' with | .struct _ | .array _ _ => true | _ => false) = true) (hi' : (P.info? uy).map (·.size) = some cs'.size) :
  (results fn tmps).run P w = .ok (.tuple #[.agg cs, .agg cs']) w := by
 have hp' : tmps[p]?.getD undef = .pointer (some ⟨g, 0, none⟩) := by simpa using hp
 have hq' : tmps[q]?.getD undef = .pointer (some ⟨k, 0, none⟩) := by simpa using hq
 simp [results, h, hp', hq', asAddr, run_loadVar_row w g t ty cs fr d hg hu hd hi, run_loadVar_row w k t' uy cs' fr' d' hk hu' hd' hi']
end
end Mur
namespace Mur
open Go Go.RowKit
section
variable {P : Program} {ops : Array Oper} {o : Oper} {a : Act} {md : Region.Mode} {S : World → Prop} {Q : Exit → Act → World → Prop} {i fuel : Nat} {listed : Array Bool} {w : World}
end

theorem mapM_all {α β : Type} (f : α → Option β) (g : α → β) : ∀ l : List α, (∀ x ∈ l, f x = some (g x)) → l.mapM f = some (l.map g)
 | [], _ => rfl
 | x :: l, h => by
  rw [List.mapM_cons, h x (by simp), mapM_all f g l (fun y hy => h y (by simp [hy]))]
  rfl
section
variable {P : Program}
structure DigT (P : Program) (T e : TypeId) : Prop where
 ty : P.underlying T = some (.array 32 e)
 el : P.underlying e = some (.int .u8)
 ce : P.cellsOf e = 1
 ct : P.cellsOf T = 32
 key : P.keyTypeAt 2 T = true
 quiet : P.eqGuardType P.depth T = false
def litOf (d : List UInt8) (i : Nat) : List Lit := [.int .u8 ((d.getD i 0).toNat : Int)]
theorem keyLits_dig {T e : TypeId} (h : DigT P T e) (d : List UInt8) (hd : d.length = 32) : P.keyLits 2 T (b8s d) = some ((List.range 32).map (litOf d)).flatten := by
 unfold Program.keyLits
 simp only [h.ty]
 rw [if_pos (by rw [b8s_length, hd, h.ct]), mapM_all _ (litOf d)]
 ·rfl
 ·intro i hi
  have hi' : i < 32 := by simpa using hi
  have hl : i < (b8s d).length := by rw [b8s_length]; omega
  rw [h.ce, Nat.mul_one, List.drop_eq_getElem_cons hl, List.take_succ_cons, List.take_zero]
  have hg := b8s_get d i (by omega)
  rw [List.getElem?_eq_getElem hl] at hg
  rw [Option.some.inj hg]
  unfold Program.keyLits
  simp only [h.el]
  have := (d.getD i 0).toNat_lt
  have hwf : (Lit.int .u8 ((d.getD i 0).toNat : Int)).wf = true := by
   have h1 : IntKind.u8.min = 0 := by decide
   have h2 : IntKind.u8.max = 255 := by decide
   simp only [Lit.wf, h1, h2, Bool.and_eq_true, decide_eq_true_eq]
   omega
  exact if_pos ⟨trivial, hwf⟩
theorem lits_inj {d d' : List UInt8} (hd : d.length = 32) (hd' : d'.length = 32) : ((List.range 32).map (litOf d)).flatten = ((List.range 32).map (litOf d')).flatten ↔ d = d' := by
 constructor
 ·intro h
  have e : ∀ x : List UInt8, ((List.range 32).map (litOf x)).flatten = (List.range 32).map fun i => Lit.int .u8 ((x.getD i 0).toNat : Int) := by
   intro x
   generalize List.range 32 = l
   induction l with
   | nil => rfl
   | cons i l ih => simp only [List.map_cons, List.flatten_cons, ih]; rfl
  rw [e, e] at h
  refine List.ext_getElem (by omega) fun i h1 h2 => ?_
  have := List.map_inj_left.1 h i (by simp; omega)
  injection this with _ this
  have h3 := UInt8.toNat_inj.1 (Int.ofNat.inj this)
  simpa [List.getD_eq_getElem?_getD, h1, h2] using h3
 ·rintro rfl
  rfl
theorem run_eql_dig {T e : TypeId} (h : DigT P T e) (d d' : List UInt8) (hd : d.length = 32) (hd' : d'.length = 32) (w : World) (x y : Operand) (ty : TypeId) (a : Act) (o : Oper) (ho : o.op = .binOp .eql T x y ty)
  (hx : a.eval x = .agg (b8s d).toArray) (hy : a.eval y = .agg (b8s d').toArray) : (execOp a.eval o).run P w = .ok (.value (.bool (decide (d = d')))) w := by
 have hf : ∀ x : List UInt8, x.length = 32 → (Value.agg (b8s x).toArray).formed P T = true := by
  intro x hx
  simp [Value.formed, h.ty, h.ct, b8s_length, hx]
 obtain ⟨r, hr, hiff⟩ := run_equalIn_deep (P := P) 9998 2 T h.key w 2 2 (.agg (b8s d).toArray) (.agg (b8s d').toArray) _ _ (hf d hd) (hf d' hd') (keyLits_dig h d hd) (keyLits_dig h d' hd')
 rw [lits_inj hd hd'] at hiff
 have hr' : r = decide (d = d') := by
  by_cases e : d = d'
  ·rw [decide_eq_true e]; exact hiff.2 e
  ·rw [decide_eq_false e]
   cases r
   ·rfl
   ·exact absurd (hiff.1 rfl) e
 subst hr'
 unfold execOp
 simp only [ho, hx, hy, Sem.run_bind, run_eqGuard_agg w _ _ _ _ _ _ h.quiet, Result.andThen_ok, run_eql_struct, Sem.run_pure]
 rw [show (10000 : Nat) = 9998 + 2 from rfl, hr]
 rfl
end
end Mur
namespace Wk
open Go Go.RowKit
section control
variable {P : Program} {Q : Exit → Act → World → Prop} {next : Act → World → Prop} {a : Act} {w : World}
theorem nxt (h : next a w) : Exit.then next Q .normal a w := h
theorem thX {id : Nat} (h : Q (.exit id) a w) : Exit.then next Q (.exit id) a w := h
theorem thR (h : Q .ret a w) : Exit.then next Q .ret a w := h
theorem inN {id : Nat} (h : Q .normal a w) : Exit.inBlock id Q .normal a w := h
theorem inR {id : Nat} (h : Q .ret a w) : Exit.inBlock id Q .ret a w := h
theorem inX {id : Nat} (h : Q .normal a w) : Exit.inBlock id Q (.exit id) a w := by simp only [Exit.inBlock, if_pos]; exact h
theorem inY {id id' : Nat} (e : (id' == id) = false) (h : Q (.exit id') a w) : Exit.inBlock id Q (.exit id') a w := by
 simp only [Exit.inBlock]
 rw [if_neg (by simpa using e)]
 exact h
theorem loop {c : Code} (I : Nat → Act → World → Prop) (m0 : Nat) (h0 : I m0 a w)
  (round : ∀ m a w, I m a w → c.wp P (Exit.then (fun a' w' => ∃ m', m' < m ∧ I m' a' w') Q) a w) : (Code.loop c).wp P Q a w := by
 classical
 have key : ∀ n, ∀ m a w, m ≤ n → I m a w → ∃ k, I k a w ∧ ∀ j, j < k → ¬ I j a w := by
  intro n
  induction n with
  | zero => exact fun m a w hm h => ⟨m, h, fun j hj => by omega⟩
  | succ n ih =>
   intro m a w hm h
   by_cases hx : ∃ j, j < m ∧ I j a w
   ·obtain ⟨j, hj, hI⟩ := hx
    exact ih j a w (by omega) hI
   ·exact ⟨m, h, fun j hj hI => hx ⟨j, hj, hI⟩⟩
 let μ : Act → World → Nat := fun a w => if h : ∃ k, I k a w ∧ ∀ j, j < k → ¬ I j a w then Classical.choose h else 0
 have hμ : ∀ a w, (∃ m, I m a w) → I (μ a w) a w ∧ ∀ j, j < μ a w → ¬ I j a w := by
  rintro a w ⟨m, hm⟩
  have hx := key m m a w (Nat.le_refl _) hm
  simp only [μ, dif_pos hx]
  exact Classical.choose_spec hx
 refine wp_loop (fun a w => ∃ m, I m a w) μ ⟨m0, h0⟩ fun a w hI => ?_
 refine wp_mono (round _ _ _ (hμ a w hI).1) fun e a' w' hq => ?_
 cases e with
 | normal =>
  obtain ⟨m', hlt, hI'⟩ := hq
  refine ⟨⟨m', hI'⟩, ?_⟩
  have h2 := (hμ a' w' ⟨m', hI'⟩).2
  rcases Nat.lt_or_ge m' (μ a' w') with h | h
  ·exact absurd hI' (h2 _ h)
  ·exact Nat.lt_of_le_of_lt h hlt
 | _ => exact hq
theorem cut {c : Code} (R : Act → World → Prop) (h : c.wp P (Exit.then R Q) a w) (k : ∀ a w, R a w → Q .normal a w) : c.wp P Q a w :=
 wp_mono h fun e a w hq => by
  cases e with
  | normal => exact k a w hq
  | _ => exact hq
theorem retN {fn : Func} {R : Ending → World → Prop} (v : Value) (hd : a.defers = []) (hr : (results fn a.tmps).run P w = .ok v w) (h : R (.returned v) w) : bodyPost P fn R .normal a w := ⟨hd, v, hr, h⟩
structure Rds (P : Program) (c : Code) (Q : Exit → Act → World → Prop) (n : Nat) (a : Act) (w : World) : Prop where
 out : Code.rounds P c Q n a w
theorem loopN {c : Code} (n : Nat) (h : Rds P c Q n a w) : (Code.loop c).wp P Q a w := wp_loop_rounds n h.out
theorem rdS {c : Code} {n : Nat} (h : c.wp P (Exit.then (Rds P c Q n) Q) a w) : Rds P c Q (n + 1) a w := ⟨wp_mono h fun e a w hq => by
 cases e with
 | normal => exact hq.out
 | _ => exact hq⟩
theorem ret {fn : Func} {R : Ending → World → Prop} (v : Value) (hd : a.defers = []) (hr : (results fn a.tmps).run P w = .ok v w) (h : R (.returned v) w) : bodyPost P fn R .ret a w := ⟨hd, v, hr, h⟩
end control
section plain
variable {P : Program} {ops : Array Oper} {Q : Exit → Act → World → Prop} {a : Act} {w w1 : World} {o : Oper}
structure From (P : Program) (ops : Array Oper) (Q : Exit → Act → World → Prop) (i : Nat) (a : Act) (w : World) : Prop where
 out : wpOps P ops Q ((List.range ops.size).drop i) a w
theorem reg {id : Nat} (h : From P ops Q 0 a w) : (Code.region id ops false).wp P Q a w := wp_region h.out
theorem from_step {i : Nat} (hi : ops[i]? = some o) (h : wpOp P ops Q i (From P ops Q (i + 1)) a w) : From P ops Q i a w := by
 have hlt : i < ops.size := (Array.getElem?_eq_some_iff.1 hi).1
 refine ⟨?_⟩
 rw [List.drop_eq_getElem_cons (by simpa using hlt), List.getElem_range, wpOps_cons]
 exact wpOp_mono (fun _ _ h => h.out) h
theorem rEnd (i : Nat) (hi : (ops.size == i) = true) (h : Q .normal a w) : From P ops Q i a w := by
 refine ⟨?_⟩
 rw [List.drop_of_length_le (by simp only [List.length_range]; exact Nat.le_of_eq (by simpa using hi))]
 exact h
theorem rVal (i : Nat) (d : Option Tmp) (v : Value) (hi : ops[i]? = some o) (hd : o.dst = d) (hw : Region.wanted o (yielded ops a.tmps) = true) (hrun : (execOp a.eval o).run P w = .ok (.value v) w1)
  (h : From P ops Q (i + 1) (a.put d v) w1) : From P ops Q i a w := by
 subst hd
 refine from_step hi ?_
 unfold wpOp
 simp only [hi]
 rw [if_pos hw]
 refine .inl ?_
 unfold Oper.wp
 rw [hrun, Oper.upon_value]
 exact h
theorem rPure (i : Nat) (d : Option Tmp) (v : Value) (hi : ops[i]? = some o) (hd : o.dst = d) (hw : Region.wanted o (yielded ops a.tmps) = true) (hrun : (execOp a.eval o).run P w = .ok (.value v) w)
  (h : From P ops Q (i + 1) (a.put d v) w) : From P ops Q i a w := rVal i d v hi hd hw hrun h
theorem rSkip (i : Nat) (d : Option Tmp) (hi : ops[i]? = some o) (hd : o.dst = d) (hw : Region.wanted o (yielded ops a.tmps) = true) (hrun : (execOp a.eval o).run P w = .ok .skip w1)
  (h : From P ops Q (i + 1) (a.put d undef) w1) : From P ops Q i a w := by
 subst hd
 refine from_step hi ?_
 unfold wpOp
 simp only [hi]
 rw [if_pos hw]
 refine .inl ?_
 unfold Oper.wp
 rw [hrun]
 exact h
theorem rPass (i : Nat) (d : Option Tmp) (hi : ops[i]? = some o) (hd : o.dst = d) (hw : Region.wanted o (yielded ops a.tmps) = false) (h : From P ops Q (i + 1) (a.put d undef) w) : From P ops Q i a w := by
 subst hd
 refine from_step hi ?_
 unfold wpOp
 simp only [hi, hw]
 exact h
theorem rEx (i : Nat) (d : Option Tmp) (F : Value → World → Prop) (hi : ops[i]? = some o) (hd : o.dst = d) (hw : Region.wanted o (yielded ops a.tmps) = true) (hrun : ∃ v w1, (execOp a.eval o).run P w = .ok (.value v) w1 ∧ F v w1)
  (h : ∀ v w1, F v w1 → From P ops Q (i + 1) (a.put d v) w1) : From P ops Q i a w := by
 obtain ⟨v, w1, h1, h2⟩ := hrun
 exact rVal i d v hi hd hw h1 (h v w1 h2)
theorem rExS (i : Nat) (d : Option Tmp) (F : World → Prop) (hi : ops[i]? = some o) (hd : o.dst = d) (hw : Region.wanted o (yielded ops a.tmps) = true) (hrun : ∃ w1, (execOp a.eval o).run P w = .ok .skip w1 ∧ F w1)
  (h : ∀ w1, F w1 → From P ops Q (i + 1) (a.put d undef) w1) : From P ops Q i a w := by
 obtain ⟨w1, h1, h2⟩ := hrun
 exact rSkip i d hi hd hw h1 (h w1 h2)
theorem rCall (i : Nat) (d : Option Tmp) (f : FuncId) (xs : List Operand) (ts : Array TypeId) (vals : List Value) (hi : ops[i]? = some o) (hd : o.dst = d) (hw : Region.wanted o (yielded ops a.tmps) = true)
  (ho : o.op = .call { callee := .value (.func f), args := xs.toArray, argTypes := ts }) (hv : xs.map a.eval = vals) (hrun : (callFunc f vals.toArray).run P w = .ok (.enter f vals.toArray) w)
  (hc : Calls P f vals.toArray w fun e w' => ∃ v, e = .returned v ∧ From P ops Q (i + 1) (a.put d v) w') : From P ops Q i a w := by
 subst hd
 refine from_step hi ?_
 unfold wpOp
 simp only [hi]
 rw [if_pos hw]
 refine .inl ?_
 obtain ⟨dst, op, ty, pos, after, guard⟩ := o
 simp only at ho
 subst ho
 unfold Oper.wp
 rw [execOp_call_go, List.map_toArray, hv, show #[] ++ vals.toArray ++ #[] = vals.toArray by simp, hrun, Oper.upon_enter]
 refine hc.mono ?_
 rintro e w' ⟨v, rfl, h1⟩
 exact h1
end plain
structure At (P : Program) (ops : Array Oper) (Q : Exit → Act → World → Prop) (i : Nat) (K : Act → World → Prop) (a : Act) (w : World) : Prop where
 out : wpOp P ops Q i K a w
section drawn
variable {P : Program} {ops : Array Oper} {o : Oper} {a : Act} {S : World → Prop} {Q : Exit → Act → World → Prop} {fuel : Nat} {listed : Array Bool} {w w1 : World}
theorem dVal (i : Nat) (d : Option Tmp) (v : Value) (hi : ops[i]? = some o) (hd : o.dst = d) (hs : Region.noSelect ops = true) (hf : Region.free .any ops listed i = true) (hr : (Region.ready .any ops listed).contains i = true)
  (hQ : ∀ c a w, Q (.panic c) (a.put d v) w → Q (.panic c) a w) (hw : Region.wanted o (yielded ops a.tmps) = true) (hrun : ∀ w, S w → (execOp a.eval o).run P w = .ok (.value v) w) (hS : S w)
  (h : wpAnyH P .any ops Q S fuel (listed.setIfInBounds i true) (a.put d v) w) : wpAnyH P .any ops Q S (fuel + 1) listed a w := by
 subst hd
 exact wpAnyH_take hi hs hf hr hQ (.inl ⟨hw, hrun⟩) hS h
theorem dPass (i : Nat) (d : Option Tmp) (hi : ops[i]? = some o) (hd : o.dst = d) (hs : Region.noSelect ops = true) (hf : Region.free .any ops listed i = true) (hr : (Region.ready .any ops listed).contains i = true)
  (hQ : ∀ c a w, Q (.panic c) (a.put d undef) w → Q (.panic c) a w) (hw : Region.wanted o (yielded ops a.tmps) = false) (hS : S w)
  (h : wpAnyH P .any ops Q S fuel (listed.setIfInBounds i true) (a.put d undef) w) : wpAnyH P .any ops Q S (fuel + 1) listed a w := by
 subst hd
 exact wpAnyH_take hi hs hf hr hQ (.inr ⟨hw, rfl⟩) hS h
theorem dOp (i : Nat) (hr : Region.ready .any ops listed = [i]) (h : At P ops Q i (fun a' w' => S w' ∧ wpAnyH P .any ops Q S fuel (listed.setIfInBounds i true) a' w') a w) : wpAnyH P .any ops Q S (fuel + 1) listed a w :=
 wpAnyH_all hr (by simp) fun j hj => by
  obtain rfl : j = i := by simpa using hj
  exact h.out
theorem dOp2 (i j : Nat) (hr : Region.ready .any ops listed = [i, j]) (h : At P ops Q i (fun a' w' => S w' ∧ wpAnyH P .any ops Q S fuel (listed.setIfInBounds i true) a' w') a w)
  (k : At P ops Q j (fun a' w' => S w' ∧ wpAnyH P .any ops Q S fuel (listed.setIfInBounds j true) a' w') a w) : wpAnyH P .any ops Q S (fuel + 1) listed a w :=
 wpAnyH_all hr (by simp) fun l hl => by
  rcases List.mem_cons.1 hl with rfl | hl
  ·exact h.out
  ·obtain rfl : l = j := by simpa using hl
   exact k.out
theorem dOp3 (i j k : Nat) (hr : Region.ready .any ops listed = [i, j, k]) (h : At P ops Q i (fun a' w' => S w' ∧ wpAnyH P .any ops Q S fuel (listed.setIfInBounds i true) a' w') a w)
  (h2 : At P ops Q j (fun a' w' => S w' ∧ wpAnyH P .any ops Q S fuel (listed.setIfInBounds j true) a' w') a w)
  (h3 : At P ops Q k (fun a' w' => S w' ∧ wpAnyH P .any ops Q S fuel (listed.setIfInBounds k true) a' w') a w) : wpAnyH P .any ops Q S (fuel + 1) listed a w :=
 wpAnyH_all hr (by simp) fun l hl => by
  rcases List.mem_cons.1 hl with rfl | hl
  ·exact h.out
  ·rcases List.mem_cons.1 hl with rfl | hl
   ·exact h2.out
   ·obtain rfl : l = k := by simpa using hl
    exact h3.out
theorem oVal {i : Nat} {K : Act → World → Prop} (d : Option Tmp) (v : Value) (hi : ops[i]? = some o) (hd : o.dst = d) (hw : Region.wanted o (yielded ops a.tmps) = true) (hrun : (execOp a.eval o).run P w = .ok (.value v) w1)
  (h : K (a.put d v) w1) : At P ops Q i K a w := by
 subst hd
 refine ⟨?_⟩
 unfold wpOp
 simp only [hi]
 rw [if_pos hw]
 refine .inl ?_
 unfold Oper.wp
 rw [hrun, Oper.upon_value]
 exact h
theorem oSkip {i : Nat} {K : Act → World → Prop} (d : Option Tmp) (hi : ops[i]? = some o) (hd : o.dst = d) (hw : Region.wanted o (yielded ops a.tmps) = true) (hrun : (execOp a.eval o).run P w = .ok .skip w1)
  (h : K (a.put d undef) w1) : At P ops Q i K a w := by
 subst hd
 refine ⟨?_⟩
 unfold wpOp
 simp only [hi]
 rw [if_pos hw]
 refine .inl ?_
 unfold Oper.wp
 rw [hrun]
 exact h
theorem oEx {i : Nat} {K : Act → World → Prop} (d : Option Tmp) (F : Value → World → Prop) (hi : ops[i]? = some o) (hd : o.dst = d) (hw : Region.wanted o (yielded ops a.tmps) = true) (hrun : ∃ v w1, (execOp a.eval o).run P w = .ok (.value v) w1 ∧ F v w1)
  (h : ∀ v w1, F v w1 → K (a.put d v) w1) : At P ops Q i K a w := by
 obtain ⟨v, w1, h1, h2⟩ := hrun
 exact oVal d v hi hd hw h1 (h v w1 h2)
theorem oExS {i : Nat} {K : Act → World → Prop} (d : Option Tmp) (F : World → Prop) (hi : ops[i]? = some o) (hd : o.dst = d) (hw : Region.wanted o (yielded ops a.tmps) = true) (hrun : ∃ w1, (execOp a.eval o).run P w = .ok .skip w1 ∧ F w1)
  (h : ∀ w1, F w1 → K (a.put d undef) w1) : At P ops Q i K a w := by
 obtain ⟨w1, h1, h2⟩ := hrun
 exact oSkip d hi hd hw h1 (h w1 h2)
theorem oCall {i : Nat} {K : Act → World → Prop} (d : Option Tmp) (f : FuncId) (xs : List Operand) (ts : Array TypeId) (vals : List Value) (hi : ops[i]? = some o) (hd : o.dst = d) (hw : Region.wanted o (yielded ops a.tmps) = true)
  (ho : o.op = .call { callee := .value (.func f), args := xs.toArray, argTypes := ts }) (hv : xs.map a.eval = vals) (hrun : (callFunc f vals.toArray).run P w = .ok (.enter f vals.toArray) w)
  (hc : Calls P f vals.toArray w fun e w' => ∃ v, e = .returned v ∧ K (a.put d v) w') : At P ops Q i K a w := by
 subst hd
 refine ⟨?_⟩
 unfold wpOp
 simp only [hi]
 rw [if_pos hw]
 refine .inl ?_
 obtain ⟨dst, op, ty, pos, after, guard⟩ := o
 simp only at ho
 subst ho
 unfold Oper.wp
 rw [execOp_call_go, List.map_toArray, hv, show #[] ++ vals.toArray ++ #[] = vals.toArray by simp, hrun, Oper.upon_enter]
 refine hc.mono ?_
 rintro e w' ⟨v, rfl, h1⟩
 exact h1
theorem dEnd (hr : Region.ready .any ops listed = []) (h : Q .normal a w) : wpAnyH P .any ops Q S fuel listed a w := wpAnyH_done hr h _
end drawn
section runs
variable {P : Program} {w w1 : World} {s : Sem Next}
theorem int64 {n z : Int} (e : n = z) (lo : -9223372036854775808 ≤ z) (hi : z ≤ 9223372036854775807) (h : s.run P w = .ok (.value (.int .i64 (IntKind.i64.wrap n))) w1) : s.run P w = .ok (.value (.int .i64 z)) w1 := by
 subst e
 rw [h, show IntKind.i64.wrap n = n from IntWalk.i64_in n ⟨by omega, by omega⟩]
theorem boolT {b : Bool} (e : b = true) (h : s.run P w = .ok (.value (.bool b)) w1) : s.run P w = .ok (.value (.bool true)) w1 := by rw [h, e]
theorem boolF {b : Bool} (e : b = false) (h : s.run P w = .ok (.value (.bool b)) w1) : s.run P w = .ok (.value (.bool false)) w1 := by rw [h, e]
theorem val {v v' : Value} (e : v = v') (h : s.run P w = .ok (.value v) w1) : s.run P w = .ok (.value v') w1 := by rw [h, e]
end runs
end Wk
namespace Go
open Wk
def gd (b : Array Value) (i : Nat) : Value := b.getD i undef
abbrev Z64 : Array Value := #[.int .u8 0, .int .u8 0, .int .u8 0, .int .u8 0, .int .u8 0, .int .u8 0, .int .u8 0, .int .u8 0, .int .u8 0, .int .u8 0, .int .u8 0, .int .u8 0, .int .u8 0, .int .u8 0, .int .u8 0, .int .u8 0, .int .u8 0, .int .u8 0, .int .u8 0, .int .u8 0, .int .u8 0, .int .u8 0, .int .u8 0, .int .u8 0, .int .u8 0, .int .u8 0, .int .u8 0, .int .u8 0, .int .u8 0, .int .u8 0, .int .u8 0, .int .u8 0, .int .u8 0, .int .u8 0, .int .u8 0, .int .u8 0, .int .u8 0, .int .u8 0, .int .u8 0, .int .u8 0, .int .u8 0, .int .u8 0, .int .u8 0, .int .u8 0, .int .u8 0, .int .u8 0, .int .u8 0, .int .u8 0, .int .u8 0, .int .u8 0, .int .u8 0, .int .u8 0, .int .u8 0, .int .u8 0, .int .u8 0, .int .u8 0, .int .u8 0, .int .u8 0, .int .u8 0, .int .u8 0, .int .u8 0, .int .u8 0, .int .u8 0, .int .u8 0]
abbrev Z32 : Array Value := #[.int .u8 0, .int .u8 0, .int .u8 0, .int .u8 0, .int .u8 0, .int .u8 0, .int .u8 0, .int .u8 0, .int .u8 0, .int .u8 0, .int .u8 0, .int .u8 0, .int .u8 0, .int .u8 0, .int .u8 0, .int .u8 0, .int .u8 0, .int .u8 0, .int .u8 0, .int .u8 0, .int .u8 0, .int .u8 0, .int .u8 0, .int .u8 0, .int .u8 0, .int .u8 0, .int .u8 0, .int .u8 0, .int .u8 0, .int .u8 0, .int .u8 0, .int .u8 0]
abbrev ZM : Array Value := #[.int .u8 0, .slice none 0 0, .int .u8 0, .int .u8 0, .int .u8 0, .int .u8 0, .int .u8 0, .int .u8 0, .int .u8 0, .int .u8 0, .int .u8 0, .int .u8 0, .int .u8 0, .int .u8 0, .int .u8 0, .int .u8 0, .int .u8 0, .int .u8 0, .int .u8 0, .int .u8 0, .int .u8 0, .int .u8 0, .int .u8 0, .int .u8 0, .int .u8 0, .int .u8 0, .int .u8 0, .int .u8 0, .int .u8 0, .int .u8 0, .int .u8 0, .int .u8 0, .int .u8 0, .int .u8 0, .int .i64 0, .slice none 0 0, .bool false]
abbrev pt (g o : Nat) : Value := .pointer (some ⟨g, o, none⟩)
section
variable {P : Program} {ops : Array Oper} {Q : Exit → Act → World → Prop} {a : Act} {w : World} {o : Oper} {S : World → Prop} {fuel : Nat} {listed : Array Bool}
theorem rP (i d : Nat) (v : Value) (h : From P ops Q (i + 1) (a.put (some d) v) w) (hi : ops[i]? = some o := by exact rfl) (hd : o.dst = some d := by exact rfl) (hw : Region.wanted o (yielded ops a.tmps) = true := by kernel_rfl) (hrun : (execOp a.eval o).run P w = .ok (.value v) w := by kernel_rfl) : From P ops Q i a w := rPure i (some d) v hi hd hw hrun h
theorem rZ (i d : Nat) (h : From P ops Q (i + 1) (a.put (some d) undef) w) (hi : ops[i]? = some o := by exact rfl) (hd : o.dst = some d := by exact rfl) (hw : Region.wanted o (yielded ops a.tmps) = false := by kernel_rfl) : From P ops Q i a w := rPass i (some d) hi hd hw h
theorem rt {fn : Func} {R : Ending → World → Prop} (v : Value) (h : R (.returned v) w) (hd : a.defers = [] := by exact rfl) (hr : (results fn a.tmps).run P w = .ok v w := by kernel_rfl) : bodyPost P fn R .ret a w := ⟨hd, v, hr, h⟩
theorem rQ (i d : Nat) (v : Value) (hi : ops[i]? = some o) (hd : o.dst = some d) (hrun : (execOp a.eval o).run P w = .ok (.value v) w) (h : From P ops Q (i + 1) (a.put (some d) v) w) (hw : Region.wanted o (yielded ops a.tmps) = true := by kernel_rfl) : From P ops Q i a w := rPure i (some d) v hi hd hw hrun h
theorem rC (i d : Nat) (f : FuncId) (xs : List Operand) (ts : Array TypeId) (vals : List Value) (hc : Calls P f vals.toArray w fun e w' => ∃ v, e = .returned v ∧ From P ops Q (i + 1) (a.put (some d) v) w') (hi : ops[i]? = some o := by exact rfl) (hd : o.dst = some d := by exact rfl) (ho : o.op = .call { callee := .value (.func f), args := xs.toArray, argTypes := ts } := by exact rfl)
  (hw : Region.wanted o (yielded ops a.tmps) = true := by kernel_rfl) (hv : xs.map a.eval = vals := by kernel_rfl) (hrun : (callFunc f vals.toArray).run P w = .ok (.enter f vals.toArray) w := by kernel_rfl) : From P ops Q i a w := rCall i (some d) f xs ts vals hi hd hw ho hv hrun hc
theorem qboolT {s : Sem Next} {w1 : World} {b : Bool} (e : b = true) (h : s.run P w = .ok (.value (.bool b)) w1 := by kernel_rfl) : s.run P w = .ok (.value (.bool true)) w1 := boolT e h
theorem qboolF {s : Sem Next} {w1 : World} {b : Bool} (e : b = false) (h : s.run P w = .ok (.value (.bool b)) w1 := by kernel_rfl) : s.run P w = .ok (.value (.bool false)) w1 := boolF e h
theorem qint64 {s : Sem Next} {w1 : World} {n z : Int} (e : n = z) (lo : -9223372036854775808 ≤ z) (hi : z ≤ 9223372036854775807) (h : s.run P w = .ok (.value (.int .i64 (IntKind.i64.wrap n))) w1 := by kernel_rfl) : s.run P w = .ok (.value (.int .i64 z)) w1 := int64 e lo hi h
theorem rX (i d : Nat) {F : Value → World → Prop} (hi : ops[i]? = some o) (hd : o.dst = some d) (hrun : ∃ v w1, (execOp a.eval o).run P w = .ok (.value v) w1 ∧ F v w1) (h : ∀ v w1, F v w1 → From P ops Q (i + 1) (a.put (some d) v) w1) (hw : Region.wanted o (yielded ops a.tmps) = true := by kernel_rfl) : From P ops Q i a w := rEx i (some d) F hi hd hw hrun h
theorem rY (i : Nat) {F : World → Prop} (hi : ops[i]? = some o) (hd : o.dst = none) (hrun : ∃ w1, (execOp a.eval o).run P w = .ok .skip w1 ∧ F w1) (h : ∀ w1, F w1 → From P ops Q (i + 1) (a.put none undef) w1) (hw : Region.wanted o (yielded ops a.tmps) = true := by kernel_rfl) : From P ops Q i a w := rExS i none F hi hd hw hrun h
theorem dW (i d : Nat) (v : Value) (hS : S w) (h : wpAnyH P .any ops Q S fuel (listed.setIfInBounds i true) (a.put (some d) v) w) (hi : ops[i]? = some o := by exact rfl) (hd : o.dst = some d := by exact rfl) (hrun : ∀ w, S w → (execOp a.eval o).run P w = .ok (.value v) w := by intro _ _; kernel_rfl) (hs : Region.noSelect ops = true := by kernel_rfl) (hf : Region.free .any ops listed i = true := by kernel_rfl) (hr : (Region.ready .any ops listed).contains i = true := by kernel_rfl)
  (hQ : ∀ c a w, Q (.panic c) (a.put (some d) v) w → Q (.panic c) a w := by exact fun _ _ _ h => h) (hw : Region.wanted o (yielded ops a.tmps) = true := by kernel_rfl) : wpAnyH P .any ops Q S (fuel + 1) listed a w := dVal i (some d) v hi hd hs hf hr hQ hw hrun hS h
theorem dZ (i d : Nat) (hS : S w) (h : wpAnyH P .any ops Q S fuel (listed.setIfInBounds i true) (a.put (some d) undef) w) (hi : ops[i]? = some o := by exact rfl) (hd : o.dst = some d := by exact rfl) (hs : Region.noSelect ops = true := by kernel_rfl) (hf : Region.free .any ops listed i = true := by kernel_rfl) (hr : (Region.ready .any ops listed).contains i = true := by kernel_rfl)
  (hQ : ∀ c a w, Q (.panic c) (a.put (some d) undef) w → Q (.panic c) a w := by exact fun _ _ _ h => h) (hw : Region.wanted o (yielded ops a.tmps) = false := by kernel_rfl) : wpAnyH P .any ops Q S (fuel + 1) listed a w := dPass i (some d) hi hd hs hf hr hQ hw hS h
theorem dV (i d : Nat) (v : Value) (hi : ops[i]? = some o) (hd : o.dst = some d) (hrun : ∀ w, S w → (execOp a.eval o).run P w = .ok (.value v) w) (hS : S w) (h : wpAnyH P .any ops Q S fuel (listed.setIfInBounds i true) (a.put (some d) v) w) (hs : Region.noSelect ops = true := by kernel_rfl) (hf : Region.free .any ops listed i = true := by kernel_rfl) (hr : (Region.ready .any ops listed).contains i = true := by kernel_rfl)
  (hQ : ∀ c a w, Q (.panic c) (a.put (some d) v) w → Q (.panic c) a w := by exact fun _ _ _ h => h) (hw : Region.wanted o (yielded ops a.tmps) = true := by kernel_rfl) : wpAnyH P .any ops Q S (fuel + 1) listed a w := dVal i (some d) v hi hd hs hf hr hQ hw hrun hS h
end
end Go
namespace Go
abbrev vI (x : Int) : Value := .int .i64 x
abbrev vB (x : Int) : Value := .int .u8 x
abbrev vU (x : Int) : Value := .int .u64 x
abbrev vT : Value := .bool true
abbrev vF : Value := .bool false
abbrev pw (w : World) (o : Nat) : Value := pt w.heap.size o
def sgl (b : Array Value) : Nat → Nat → List (Nat × Value) → List Value
 | 0, _, _ => []
 | k + 1, i, [] => gd b i :: sgl b k (i + 1) []
 | k + 1, i, (j, u) :: L => if i == j then u :: sgl b k (i + 1) L else gd b i :: sgl b k (i + 1) ((j, u) :: L)
def sg (n : Nat) (L : List (Nat × Value)) (b : Array Value) : Act := ⟨(sgl b n 0 L).toArray, []⟩
theorem kI (n : Nat) {x y : UInt8} (hx : x.toNat = n := by omega) (hy : y.toNat = n := by exact rfl) : x = y := UInt8.toNat_inj.1 (hx.trans hy.symm)
theorem aN {p q : Prop} (h : p) (k : q) : p ∧ q := ⟨h, k⟩
end Go
