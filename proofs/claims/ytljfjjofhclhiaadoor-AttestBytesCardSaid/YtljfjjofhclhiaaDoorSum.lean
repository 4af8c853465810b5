/- sha.sum, sha.Sum, walked: the digest of bytes. -/
import Derived.Test.YtljfjjofhclhiaaDoorBlk
import Derived.Test.YtljfjjofhclhiaaDoorBytes
namespace Go.Proofs.YtljfjjofhclhiaaDoor
open Go.RowKit
open Mur (St w32 u32s cell_u32s free_row set_u32s b8s dgV Byt cutA)
def stCells (s : St) : Array Value := #[.int .u32 (w32 s.a), .int .u32 (w32 s.b), .int .u32 (w32 s.c), .int .u32 (w32 s.d), .int .u32 (w32 s.e), .int .u32 (w32 s.f), .int .u32 (w32 s.g), .int .u32 (w32 s.h)]
/-- What the two package-level variables hold. -/
def ShaVars (w : World) : Prop :=
  (∀ i, i < 64 → w.cell? ⟨1, i, none⟩ = some (.int .u32 (w32 (Mur.K.getD i 0)))) ∧ (∀ i, i < 8 → w.cell? ⟨0, i, none⟩ = some (.int .u32 (w32 (Mur.H0.toList.getD i 0))))
theorem ShaVars.below {w w1 : World} (h : ShaVars w) (hb : Below w.heap.size w w1) : ShaVars w1 := ⟨fun i hi => Mur.cell_below hb (h.1 i hi), fun i hi => Mur.cell_below hb (h.2 i hi)⟩
theorem ShaVars.lt {w : World} (h : ShaVars w) : 1 < w.heap.size := World.block_lt_of_cell? w ⟨1, 0, none⟩ (h.1 0 (by omega))
theorem ShaVars.range {w : World} (h : ShaVars w) : w.rangeAt 0 0 (stCells Mur.H0).toList := by
  intro j v hv
  have hj : j < 8 := (List.getElem?_eq_some_iff.1 hv).1
  rw [Nat.zero_add, h.2 j hj]
  obtain rfl | rfl | rfl | rfl | rfl | rfl | rfl | rfl : j = 0 ∨ j = 1 ∨ j = 2 ∨ j = 3 ∨ j = 4 ∨ j = 5 ∨ j = 6 ∨ j = 7 := by omega
  all_goals (rw [← hv]; rfl)
def L2 (w : World) (d : List UInt8) (s : St) (wr : World) : Prop :=
  Below w.heap.size w wr ∧ w.heap.size + 2 ≤ wr.heap.size ∧ wr.heap[w.heap.size]? = some (.cells (b8s d).toArray 25 (0, 0)) ∧ wr.heap[w.heap.size + 1]? = some (.cells (stCells s) 60 (0, 0))
theorem L2.below {w wr w1 : World} {d : List UInt8} {s : St} (h : L2 w d s wr) (hb : Below (w.heap.size + 2) wr w1) : L2 w d s w1 :=
  ⟨h.1.trans (hb.mono (by omega)), Nat.le_trans h.2.1 hb.size, (hb.block _ (by omega)).trans h.2.2.1, (hb.block _ (by omega)).trans h.2.2.2⟩
theorem L2.put {w wr : World} {d : List UInt8} {s : St} (h : L2 w d s wr) (t : St) : L2 w d t (wr.setRow (w.heap.size + 1) (stCells t)) :=
  ⟨below_setRow h.1 (by omega) _, by simpa using h.2.1, (setRow_other wr _ _ _ (by omega)).trans h.2.2.1, setRow_heap _ _ _ _ _ _ h.2.2.2⟩
def lenOf : Value → Nat
  | .slice _ n _ => n
  | _ => 0
def mk128 : Array Value := madeCells #[.int .u8 0] 128
theorem mk128_size : mk128.size = 128 * 1 := by simp [mk128, size_madeCells]
theorem run_mk128 (w : World) : (Instr.makeSlice 22 (.int .i64 0) (.int .i64 128)).run Tryd.prog w = .ok (.slice (some ⟨w.heap.size, 0, none⟩) 0 128) (w.alloc (.cells mk128 5)) := by
  obtain ⟨i, hi, hs⟩ := Option.map_eq_some_iff.1 (show (Tryd.prog.info? 5).map (fun i => (i.zero, i.size, i.bytes)) = some (some (.int .u8 0), 1, 1) by kernel_rfl)
  simp only [Prod.mk.injEq] at hs
  have h := run_make (P := Tryd.prog) w 22 5 i (.int .u8 0) Tryd.underlying22 hi hs.1 .i64 .i64 0 128 (by omega) (by omega) (by rw [hs.2.2]; omega) (by omega)
  rw [hs.2.1] at h
  exact h
def lenBytes (n : Nat) : List UInt8 := [Mur.byteBE (8*n) 56, Mur.byteBE (8*n) 48, Mur.byteBE (8*n) 40, Mur.byteBE (8*n) 32, Mur.byteBE (8*n) 24, Mur.byteBE (8*n) 16, Mur.byteBE (8*n) 8, Mur.byteBE (8*n) 0]
theorem byte_shape (n i : Nat) : (n : Int) * 8 / 2 ^ i % 256 = ((Mur.byteBE (8 * n) i).toNat : Int) := by
  have h : (Mur.byteBE (8 * n) i).toNat = n * 8 / 2 ^ i % 256 := by
    rw [Mur.byteBE, UInt8.toNat_ofNat', Nat.shiftRight_eq_div_pow, Nat.mul_comm]
  rw [h]
  simp
theorem lenBytes_take (n k : Nat) (h : k < 8) : (lenBytes n).take (k + 1) = (lenBytes n).take k ++ [Mur.byteBE (8 * n) (56 - 8 * k)] := by
  obtain rfl | rfl | rfl | rfl | rfl | rfl | rfl | rfl : k = 0 ∨ k = 1 ∨ k = 2 ∨ k = 3 ∨ k = 4 ∨ k = 5 ∨ k = 6 ∨ k = 7 := by omega
  all_goals rfl
def digTo (s : St) (i : Nat) : List UInt8 := (Mur.dig s).take i ++ List.replicate (32 - i) 0
theorem dig_length (s : St) : (Mur.dig s).length = 32 := by simp [Mur.dig]
theorem digTo_length (s : St) (i : Nat) : (digTo s i).length = 32 := by simp [digTo, dig_length]; omega
theorem dig_shape (x : UInt32) (m : Nat) : w32 x / 2 ^ (24 - 8 * (m % 4)) % 256 = (((x >>> UInt32.ofNat (24 - 8 * (m % 4))).toUInt8).toNat : Int) := by
  have h : (UInt32.ofNat (24 - 8 * (m % 4))).toNat = 24 - 8 * (m % 4) := by rw [UInt32.toNat_ofNat']; omega
  rw [Mur.shr_u32 x (UInt32.ofNat (24 - 8 * (m % 4))) (by rw [h]; omega) _ (by rw [h]), UInt32.toNat_toUInt8]
  simp [w32]
theorem digTo_succ (s : St) (q : Nat) (h : q < 32) : digTo s (q + 1) = (digTo s q).set q ((s.toList[q / 4]?.getD 0) >>> UInt32.ofNat (24 - 8 * (q % 4))).toUInt8 := by
  have hl := dig_length s
  have hg : (Mur.dig s)[q]? = some ((s.toList[q / 4]?.getD 0) >>> UInt32.ofNat (24 - 8 * (q % 4))).toUInt8 := by
    simp [Mur.dig, h, List.getD_eq_getElem?_getD]
  have hq : q < (Mur.dig s).length := by omega
  have hg' : (Mur.dig s)[q] = ((s.toList[q / 4]?.getD 0) >>> UInt32.ofNat (24 - 8 * (q % 4))).toUInt8 := by
    rw [List.getElem?_eq_getElem hq] at hg
    exact Option.some.inj hg
  have hlt : ((Mur.dig s).take q).length = q := by rw [List.length_take]; omega
  rw [digTo, digTo, List.take_succ_eq_append_getElem hq, hg', show 32 - q = (32 - (q + 1)) + 1 by omega, List.replicate_succ, List.set_append_right _ _ (by omega), hlt, Nat.sub_self, List.set_cons_zero, List.append_assoc]
  rfl
theorem digTo_all (s : St) : digTo s 32 = Mur.dig s := by
  rw [digTo, List.take_of_length_le (by rw [dig_length]; exact Nat.le_refl _), Nat.sub_self, List.replicate_zero, List.append_nil]
theorem L2.setD {w wr : World} {d : List UInt8} {s : St} (h : L2 w d s wr) (k : Nat) (x : UInt8) : L2 w (d.set k x) s (wr.setCell ⟨w.heap.size, k, none⟩ (.int .u8 (x.toNat : Int))) :=
  ⟨h.1.setCell (by simp) _, by simpa using h.2.1, Mur.set_b8s h.2.2.1 x, Mur.hp_set_ne h.2.2.2 _ _ _ (by omega)⟩
theorem stCells_all (s : St) : (stCells s).all (·.oneCell') = true := by simp [stCells, Value.oneCell']
/-- The round, its answer a variable. -/
theorem block_cells (s : St) (b : List UInt8) (g off n c : Nat) (w : World) (hK : ∀ i, i < 64 → w.cell? ⟨1, i, none⟩ = some (.int .u32 (w32 (Mur.K.getD i 0))))
    (hb : ∀ j, j < 64 → w.cell? ⟨g, off + j, none⟩ = some (.int .u8 ((b.getD j 0).toNat : Int))) (hn : 64 ≤ n) (hnc : n ≤ 140737488351232) (hg : g < w.heap.size) (h1 : 1 < w.heap.size) :
    Calls Tryd.prog 42 #[.agg (stCells s), .slice (some ⟨g, off, none⟩) n c] w fun e w' => ∃ t, Hid (t = Mur.block s b) ∧ e = .returned (.agg (stCells t)) ∧ Below w.heap.size w w' :=
  (block_any s b g off n c w hK hb hn hnc hg h1).mono fun _ _ ⟨h1, h2⟩ => ⟨_, rfl, h1, h2⟩
set_option maxRecDepth 100000
set_option maxHeartbeats 2000000
theorem sum_any (b : List UInt8) (A : Option Addr) (n c : Nat) (w : World) (hv : ShaVars w) (hb : Byt w A n b) (hnc : n ≤ c) (hA : A = none → c = 0) (hn : n ≤ 140737488351232) :
    Calls Tryd.prog 32 #[.slice A n c] w fun e w' => e = .returned (dgV (Mur.sha b)) ∧ Below w.heap.size w w' := by
  have HV := Go.Lib.hid hv; clear hv
  have HB := Go.Lib.hid hb; clear hb
  have HA := Go.Lib.hid hA; clear hA
  go_enter Tryd.func32, Tryd.ntmps32
  have hr1 : (w.alloc (.cells (b8s (List.replicate 32 0)).toArray 25)).rangeAt 0 0 (stCells Mur.H0).toList :=
    (HV.out.below ((Below.refl _ _).alloc (Nat.le_refl _) _)).range
  have HR1 := Go.Lib.hid hr1; clear hr1
  go_wp2_with (first
    | (refine wpList_load_mid rfl 60 (.global 0) rfl 0 0 rfl (stCells Mur.H0).toList _ HR1.out Tryd.underlying60 rfl (by kernel_rfl) ?_)
    | (refine wpList_store_row rfl 60 (.tmp 3) (.tmp 8) rfl (w.heap.size + 1) (stCells Mur.H0) rfl rfl 60 (u32s (List.replicate 8 0)) (Mur.hp_a2 _ _ _) (by kernel_rfl) (by kernel_rfl) (by kernel_rfl) ?_))
  go_loopw [0] (fun v wr => ∃ (j : Nat) (A' : Option Addr) (n' c' : Nat) (s' : St) (l : List UInt8), v = .slice A' n' c' ∧ n' ≤ c' ∧ Hid (A' = none → c' = 0) ∧ Hid (n' + 64 * j = n) ∧ Byt w A' n' l ∧ Hid (l = b.drop (64 * j)) ∧ Hid (s' = Mur.blocks Mur.H0 b j) ∧ L2 w (List.replicate 32 0) s' wr)
    (fun v _ => lenOf v)
  case atStart =>
    refine ⟨0, A, n, c, Mur.H0, b, rfl, hnc, HA, Go.Lib.hid (by omega), HB.out, rfl, rfl, ?_⟩
    refine ⟨below_setRow (((Below.refl _ _).alloc (Nat.le_refl _) _).alloc (by simp) _) (by omega) _, by simp, ?_, setRow_heap _ _ _ _ _ _ (Mur.hp_a2 _ _ _)⟩
    rw [setRow_other _ _ _ _ (by omega)]
    exact (Mur.hp_old (Mur.hp_a1 _ _) _).trans rfl
  case round =>
    obtain ⟨j, A', n', c', s', l, rfl, hnc', HA', HN, HBy, Hl, Hs, HL⟩ := hrel
    by_cases hlt : 64 ≤ n'
    · obtain ⟨g, off, rfl, hc⟩ := HBy.2 (by omega)
      have HC := Go.Lib.hid hc; clear hc
      have HK : Hid (∀ i, i < 64 → wr.cell? ⟨1, i, none⟩ = some (.int .u32 (w32 (Mur.K.getD i 0)))) := Go.Lib.hid (HV.out.below HL.1).1
      have hg : g < w.heap.size := World.block_lt_of_cell? w ⟨g, off + 0, none⟩ (HC.out 0 (by omega))
      have hsz := HL.2.1
      have hn' : n' ≤ n := by have := HN.out; omega
      have h1 := HV.out.lt
      go_wp2_with (first
        | (refine wpList_load_row rfl 60 (.tmp 3) rfl (w.heap.size + 1) rfl 60 (stCells s') (0, 0) _ HL.2.2.2 Tryd.underlying60 rfl (by kernel_rfl) ?_)
        | (go_at_call 42; refine (block_cells s' l g off n' c' wr HK.out (fun i hi => (HL.1.cell (p := ⟨g, off + i, none⟩) hg).trans (HC.out i (by omega))) hlt (by omega) (by omega) (by omega)).mono ?_; rintro e w2 ⟨s2, Hs2, rfl, hB2⟩; have HL2 := HL.below (hB2.mono hsz))
        | (refine wpList_store_row rfl 60 (.tmp 3) (.tmp 18) rfl (w.heap.size + 1) (stCells s2) rfl rfl 60 (stCells s') HL2.2.2.2 (by kernel_rfl) (by kernel_rfl) (stCells_all _) ?_)
        | (refine Mur.wpList_cut_from rfl 22 (.tmp 14) (.const (.int .i64 64)) rfl 5 Tryd.underlying22 (by kernel_rfl) (some ⟨g, off, none⟩) n' c' 64 rfl rfl hlt hnc' ?_))
      refine ⟨⟨j + 1, cutA (some ⟨g, off, none⟩) c' 64, n' - 64, c' - 64, s2, l.drop 64, rfl, by omega, fun h => absurd h (Mur.cutA_some _ _ _), ?_, HBy.from_ 64 hlt hnc', ?_, ?_, HL2.put s2⟩, by simp [lenOf]; omega⟩
      · have := HN.out
        exact Go.Lib.hid (by omega)
      · exact Go.Lib.hid (by rw [Hl.out, List.drop_drop]; congr 1)
      · refine Go.Lib.hid ?_
        rw [Hs2.out, Hs.out, Hl.out, Mur.blocks_last, Mur.block_take64]
        have := HBy.1
        rw [Hl.out] at this
        omega
    · have hmk := run_mk128
      have hn' : n' ≤ n := by have := HN.out; omega
      have hsz := HL.2.1
      go_wp2_with (first
        | (at_builtin; refine Mur.wpList_append_byt (w0 := wr) (w.heap.size + 2) rfl (.tmp 19) (.tmp 20) 22 5 rfl Tryd.underlying22 (by kernel_rfl) (.slice (some ⟨wr.heap.size, 0, none⟩) 0 128) 0 [] l A' n' c' rfl rfl (World.ownsRow_made wr mk128 128 hsz (by unfold maxLen; omega) mk128_size) ((HBy.below HL.1).below ((Below.refl _ _).alloc (Nat.le_refl _) _)) HA'.out ((Below.refl _ _).alloc hsz _) (by simp; omega) (by simp; omega) ?_; intro v1 w1 HO1 HB1 hg1 hat1)
        | (at_builtin; refine Mur.wpList_append_byt (w0 := wr) (w.heap.size + 2) rfl (.tmp 21) (.tmp 22) 22 5 rfl Tryd.underlying22 (by kernel_rfl) v1 (0 + n') ([] ++ l) [128] (some ⟨w1.heap.size, 0, none⟩) 1 1 rfl rfl (HO1.alloc _) (Mur.Byt_box _ _ _) (fun h => by cases h) (HB1.alloc (by have := HB1.size; omega) _) (by have := HB1.size; simp; omega) (by have := HBy.1; simp; omega) ?_; intro v2 w2 HO2 HB2 hg2 hat2))
      have HL2 := HL.below HB2
      have HM : Hid (n' = n % 64) := by have := HN.out; exact Go.Lib.hid (by omega)
      have Hln : Hid (l.length = n') := HBy.1
      rw [List.nil_append, Nat.zero_add] at HO2
      go_loopw [5] (fun v wr => ∃ (z N : Nat) (T : List UInt8), z ≤ Mur.padZeros n ∧ lenOf v = N ∧ Hid (N = n' + 1 + z) ∧ N ≤ 200 ∧ Hid (T = l ++ [128] ++ List.replicate z 0) ∧ wr.ownsRow (w.heap.size + 2) 5 1 v N (b8s T) ∧ L2 w (List.replicate 32 0) s' wr)
        (fun v _ => 200 - lenOf v)
      case atStart =>
        refine ⟨0, n' + 1, _, by omega, ?_, rfl, by omega, rfl, by simpa using HO2, HL2⟩
        obtain ⟨_, _, rfl, _⟩ := Mur.own_byt HO2
        rfl
      case round =>
        clear HO1 HO2 HB1 HB2 HL2 HL
        obtain ⟨z, N, T, hz, hv, HN2, hN2, HT, HO, HL⟩ := hrel
        obtain ⟨A3, c3, rfl, hc3, hm3, HB3⟩ := Mur.own_byt HO
        clear hv
        have hz64 := (Mur.padZeros_spec n).2
        have hsz := HL.2.1
        by_cases hlt : z < Mur.padZeros n
        · have t1 : ((((N : Nat) : Int) % 64) != 56) = true := by
            have := (Mur.padZeros_spec n).1; have := HM.out; have := HN2.out; rw [bne_iff_ne]; omega
          have hN3 : N ≤ 126 := by have := HN2.out; omega
          go_wp2_with (at_builtin; refine Mur.wpList_append_byt (w0 := wr) (w.heap.size + 2) rfl (.tmp 28) (.tmp 29) 22 5 rfl Tryd.underlying22 (by kernel_rfl) (.slice A3 N c3) N T [0] (some ⟨wr.heap.size, 0, none⟩) 1 1 rfl rfl (HO.alloc _) (Mur.Byt_box _ _ _) (fun h => by cases h) ((Below.refl _ _).alloc hsz _) (by simp; omega) (by omega) ?_; intro v4 w4 HO4 HB4 hg4 hat4)
          obtain ⟨A5, c5, rfl, _⟩ := Mur.own_byt HO4
          refine ⟨⟨z + 1, N + 1, T ++ [0], by omega, rfl, Go.Lib.hid (by have := HN2.out; omega), by omega, Go.Lib.hid ?_, HO4, HL.below HB4⟩, by simp [lenOf]; omega⟩
          rw [HT.out, List.replicate_succ']
          simp
        · have hz' : Hid (z = Mur.padZeros n) := Go.Lib.hid (by omega)
          have t1 : ((((N : Nat) : Int) % 64) != 56) = false := by
            have := (Mur.padZeros_spec n).1; have := HM.out; have := HN2.out; have := hz'.out; rw [bne_eq_false_iff_eq]; omega
          have hN3 : N ≤ 127 := by have := HN2.out; omega
          have T0 : Hid (T = l ++ [128] ++ List.replicate (Mur.padZeros n) 0) := Go.Lib.hid (by rw [HT.out, hz'.out])
          have HN0 : Hid (N = n' + 1 + Mur.padZeros n) := Go.Lib.hid (by rw [HN2.out, hz'.out])
          clear HT HN2 hz'
          go_wp2
          go_loopw [5, 6] (fun v i wr => ∃ (k M : Nat) (T' : List UInt8) (iv : Int), k ≤ 8 ∧ i = .int .i64 iv ∧ Hid (iv = 56 - 8 * (k : Int)) ∧ lenOf v = M ∧ Hid (M = N + k) ∧ M ≤ 200 ∧ Hid (T' = T ++ (lenBytes n).take k) ∧ wr.ownsRow (w.heap.size + 2) 5 1 v M (b8s T') ∧ L2 w (List.replicate 32 0) s' wr)
            (fun _ i _ => (intOf i + 8).toNat)
          case atStart => exact ⟨0, N, T, 56, by omega, rfl, Go.Lib.hid (by omega), rfl, rfl, by omega, Go.Lib.hid (by simp), HO, HL⟩
          case round =>
            clear HO HL HB3
            obtain ⟨k, M, T', iv, hk, rfl, hiv, hv, HM2, hM2, HT, HO, HL⟩ := hrel
            obtain ⟨A3, c3, rfl, hc3, hm3, HB3⟩ := Mur.own_byt HO
            clear hv
            have hsz := HL.2.1
            by_cases hlt : k < 8
            · obtain rfl : iv = 56 - 8 * (k : Int) := hiv.out
              have hM3 : M ≤ 140 := by have := HM2.out; omega
              obtain ⟨x, hx, hX⟩ : ∃ x : UInt8, Hid (x = Mur.byteBE (8 * n) (56 - 8 * k)) ∧ (n : Int) * 8 / 2 ^ (56 - 8 * k) % 256 = (x.toNat : Int) := ⟨_, rfl, byte_shape n _⟩
              go_wp2_with (at_builtin; refine Mur.wpList_append_byt (w0 := wr) (w.heap.size + 2) rfl (.tmp 35) (.tmp 42) 22 5 rfl Tryd.underlying22 (by kernel_rfl) (.slice A3 M c3) M T' [x] (some ⟨wr.heap.size, 0, none⟩) 1 1 rfl rfl (HO.alloc _) (Mur.Byt_box _ _ _) (fun h => by cases h) ((Below.refl _ _).alloc hsz _) (by simp; omega) (by omega) ?_; intro v4 w4 HO4 HB4 hg4 hat4)
              obtain ⟨A5, c5, rfl, _⟩ := Mur.own_byt HO4
              refine ⟨⟨k + 1, M + 1, T' ++ [x], _, by omega, rfl, Go.Lib.hid (by omega), rfl, Go.Lib.hid (by have := HM2.out; omega), by omega, Go.Lib.hid ?_, HO4, HL.below HB4⟩, by simp [intOf]; omega⟩
              rw [HT.out, hx.out, lenBytes_take n k hlt]
              simp
            · obtain rfl : k = 8 := by omega
              have hivn : iv < 0 := by have := hiv.out; omega
              go_wp2
              have HM3 : Hid (M % 64 = 0) := Go.Lib.hid (by have := HM2.out; have := HN0.out; have := HM.out; have := (Mur.padZeros_spec n).1; omega)
              have HTl : Hid (T' = Mur.tailOf b) := Go.Lib.hid (by
                rw [HT.out, T0.out, Mur.tailOf_eq, Hl.out]
                have e1 : b.length = n := HB.out.1
                have e2 : n / 64 = j := by have := HN.out; omega
                rw [e1, e2]
                simp [Mur.padEnd, lenBytes])
              have Hj : Hid (j = b.length / 64) := Go.Lib.hid (by
                have e1 : b.length = n := HB.out.1
                rw [e1]; have := HN.out; omega)
              have HB3len : Hid (T'.length = M) := HB3.1
              have HlA : Hid (∀ a, A3 = some a → w.heap.size + 2 ≤ a.block ∧ a.block < wr.heap.size) := Go.Lib.hid (fun a ha => by subst ha; exact HO.lt _ rfl)
              clear HT T0 HN0 HM HM2 hm3 hlt
              obtain ⟨wt, rfl⟩ : ∃ wt : World, wt = wr := ⟨_, rfl⟩
              go_loopw [5] (fun v wq => ∃ (i : Nat) (A' : Option Addr) (n' c' : Nat) (s2 : St) (l : List UInt8), v = .slice A' n' c' ∧ n' ≤ c' ∧ n' ≤ M ∧ Hid (n' + 64 * i = M) ∧ Hid (∀ a, A' = some a → w.heap.size + 2 ≤ a.block ∧ a.block < wt.heap.size) ∧
                  Byt wt A' n' l ∧ Hid (l = T'.drop (64 * i)) ∧ Hid (s2 = Mur.blocks s' T' i) ∧ L2 w (List.replicate 32 0) s2 wq ∧ Hid (∀ k, w.heap.size + 2 ≤ k → k < wt.heap.size → wq.heap[k]? = wt.heap[k]?) ∧ wt.heap.size ≤ wq.heap.size)
                (fun v _ => lenOf v)
              case atStart => exact ⟨0, A3, M, c3, s', T', rfl, hc3, Nat.le_refl _, Go.Lib.hid (by omega), HlA, HB3, rfl, rfl, HL, fun _ _ _ => rfl, Nat.le_refl _⟩
              case round =>
                clear HB3 HL HlA HO
                obtain ⟨i, A4, n4, c4, s4, l4, rfl, hnc4, hn4, HN4, HA4, HB4, Hl4, Hs4, HL, HK4, hsz4⟩ := hrel
                have hsz := HL.2.1
                by_cases hlt : 0 < n4
                · have h64 : 64 ≤ n4 := by have := HN4.out; have := HM3.out; omega
                  obtain ⟨g, off, rfl, hc⟩ := HB4.2 (by omega)
                  have HC := Go.Lib.hid hc; clear hc
                  obtain ⟨hg1, hg2⟩ := HA4.out _ rfl
                  have hg3 : g < wr.heap.size := Nat.lt_of_lt_of_le hg2 hsz4
                  have hcell : Hid (∀ j, j < 64 → wr.cell? ⟨g, off + j, none⟩ = some (.int .u8 ((l4.getD j 0).toNat : Int))) := fun j hj =>
                    (World.cell?_of_block (w := wt) (a := ⟨g, off + j, none⟩) (HK4.out g hg1 hg2)).trans (HC.out j (by omega))
                  have HK : Hid (∀ i, i < 64 → wr.cell? ⟨1, i, none⟩ = some (.int .u32 (w32 (Mur.K.getD i 0)))) := Go.Lib.hid (HV.out.below HL.1).1
                  have h1 := HV.out.lt
                  go_wp2_with (first
                    | (refine wpList_load_row rfl 60 (.tmp 3) rfl (w.heap.size + 1) rfl 60 (stCells s4) (0, 0) _ HL.2.2.2 Tryd.underlying60 rfl (by kernel_rfl) ?_)
                    | (go_at_call 42; refine (block_cells s4 l4 g off n4 c4 wr HK.out hcell.out h64 (by omega) hg3 (by omega)).mono ?_; rintro e w5 ⟨s5, Hs5, rfl, hB5⟩; have HL5 := HL.below (hB5.mono hsz))
                    | (refine wpList_store_row rfl 60 (.tmp 3) (.tmp 51) rfl (w.heap.size + 1) (stCells s5) rfl rfl 60 (stCells s4) HL5.2.2.2 (by kernel_rfl) (by kernel_rfl) (stCells_all _) ?_)
                    | (refine Mur.wpList_cut_from rfl 22 (.tmp 47) (.const (.int .i64 64)) rfl 5 Tryd.underlying22 (by kernel_rfl) (some ⟨g, off, none⟩) n4 c4 64 rfl rfl h64 hnc4 ?_))
                  refine ⟨⟨i + 1, cutA (some ⟨g, off, none⟩) c4 64, n4 - 64, c4 - 64, s5, l4.drop 64, rfl, by omega, by omega, ?_, ?_, HB4.from_ 64 h64 hnc4, ?_, ?_, HL5.put s5, ?_, ?_⟩, by simp [lenOf]; omega⟩
                  · have := HN4.out
                    exact Go.Lib.hid (by omega)
                  · refine Go.Lib.hid (fun a ha => ?_)
                    have := Mur.cutA_block ha
                    exact this ▸ ⟨hg1, hg2⟩
                  · exact Go.Lib.hid (by rw [Hl4.out, List.drop_drop]; congr 1)
                  · refine Go.Lib.hid ?_
                    rw [Hs5.out, Hs4.out, Hl4.out, Mur.blocks_last, Mur.block_take64]
                    have := HB4.1
                    rw [Hl4.out] at this
                    omega
                  · refine Go.Lib.hid (fun k hk1 hk2 => ?_)
                    rw [setRow_other _ _ _ _ (by omega), hB5.block k (by omega)]
                    exact HK4.out k hk1 hk2
                  · have := hB5.size
                    simp
                    omega
                · obtain rfl : n4 = 0 := by omega
                  have Hs6 : Hid (s4 = Mur.blocks (Mur.blocks Mur.H0 b (b.length / 64)) (Mur.tailOf b) ((Mur.tailOf b).length / 64)) := Go.Lib.hid (by
                    have e : i = (Mur.tailOf b).length / 64 := by
                      have h1 := HB3len.out
                      have := HN4.out
                      rw [← HTl.out, h1]
                      omega
                    rw [Hs4.out, Hs.out, Hj.out, HTl.out, e])
                  have HD : Hid (Mur.dig s4 = Mur.sha b) := Go.Lib.hid (by rw [Hs6.out, ← Mur.sha_two])
                  clear Hs6 HK4 HB4 Hl4 Hs4 HA4 HN4
                  go_wp2
                  go_loopw [52] (fun t wq => ∃ i : Nat, i ≤ 32 ∧ t = .int .i64 i ∧ L2 w (digTo s4 i) s4 wq) (fun t _ => 32 - (intOf t).toNat)
                  case atStart => exact ⟨0, by omega, rfl, HL⟩
                  case round =>
                    clear HL
                    obtain ⟨q, hq, rfl, HL⟩ := hrel
                    by_cases hlt : q < 32
                    · have cs := cell_u32s (l := s4.toList) (i := q / 4) HL.2.2.2 (by show q / 4 < 8; omega)
                      have cd := Mur.cell_b8s (i := q) HL.2.2.1 (by rw [digTo_length]; exact hlt)
                      have fd := free_row (i := q) HL.2.2.1
                      go_wp2
                      refine ⟨⟨q + 1, by omega, by go_num, ?_⟩, by simp [intOf]; omega⟩
                      rw [dig_shape, digTo_succ s4 q hlt]
                      exact HL.setD _ _
                    · obtain rfl : q = 32 := by omega
                      have hz : (b8s (digTo s4 32)).toArray.size = 32 := by rw [List.size_toArray, Mur.b8s_length, digTo_length]
                      have hd : digTo s4 32 = Mur.dig s4 := digTo_all s4
                      go_wp2_with (first
                        | (refine wpList_load_row rfl 25 (.tmp 2) rfl w.heap.size rfl 25 (b8s (digTo s4 32)).toArray (0, 0) _ HL.2.2.1 Tryd.underlying25 rfl (by rw [hz]; kernel_rfl) ?_)
                        | (refine wpList_store_row rfl 25 (.tmp 2) (.tmp 68) rfl w.heap.size (b8s (digTo s4 32)).toArray rfl rfl 25 (b8s (digTo s4 32)).toArray HL.2.2.1 (by rw [hz]; kernel_rfl) rfl (Mur.b8s_all _) ?_))
                      refine bodyPost_ret (v := .agg (b8s (digTo s4 32)).toArray) (results_cell_row rfl _ _ w.heap.size 25 (b8s (digTo s4 32)).toArray (0, 0) _ rfl (setRow_heap _ _ _ _ _ _ HL.2.2.1) Tryd.underlying25 rfl (by rw [hz]; kernel_rfl)) rfl ⟨?_, below_setRow HL.1 (by omega) _⟩
                      rw [hd, HD.out]
                      rfl
theorem dgV_size {d : List UInt8} (h : d.length = 32) : (b8s d).toArray.size = 32 := by rw [List.size_toArray, Mur.b8s_length, h]
theorem sha_length (b : List UInt8) : (Mur.sha b).length = 32 := dig_length _
/-- The digest, an answer that is a variable. -/
theorem sum_var (b : List UInt8) (A : Option Addr) (n c : Nat) (w : World) (hv : ShaVars w) (hb : Byt w A n b) (hnc : n ≤ c) (hA : A = none → c = 0) (hn : n ≤ 140737488351232) :
    Calls Tryd.prog 32 #[.slice A n c] w fun e w' => ∃ d, Hid (d = Mur.sha b) ∧ d.length = 32 ∧ e = .returned (.agg (b8s d).toArray) ∧ Below w.heap.size w w' :=
  (sum_any b A n c w hv hb hnc hA hn).mono fun _ _ ⟨h1, h2⟩ => ⟨_, rfl, sha_length b, h1, h2⟩
set_option maxRecDepth 100000
theorem Sum_var (b : List UInt8) (A : Option Addr) (n c : Nat) (w : World) (hv : ShaVars w) (hb : Byt w A n b) (hnc : n ≤ c) (hA : A = none → c = 0) (hn : n ≤ 140737488351232) :
    Calls Tryd.prog 15 #[.slice A n c] w fun e w' => ∃ d, Hid (d = Mur.sha b) ∧ d.length = 32 ∧ e = .returned (.agg (b8s d).toArray) ∧ Below w.heap.size w w' := by
  have HV := Go.Lib.hid hv; clear hv
  have HB := Go.Lib.hid hb; clear hb
  have HA := Go.Lib.hid hA; clear hA
  have hz := dgV_size (show (List.replicate 32 (0 : UInt8)).length = 32 by rfl)
  have HZ := Go.Lib.hid hz; clear hz
  go_enter Tryd.func15, Tryd.ntmps15
  have hb1 : ∀ o, Below w.heap.size w (w.alloc o) := fun o => (Below.refl _ _).alloc (Nat.le_refl _) o
  have HB1 := Go.Lib.hid hb1; clear hb1
  go_wp2_with (first
    | (go_at_call 32; refine (sum_var b A n c _ (HV.out.below (HB1.out _)) (HB.out.below (HB1.out _)) hnc HA.out hn).mono ?_; rintro e w2 ⟨d, hd, hdl, rfl, hB2⟩; have hDZ := Go.Lib.hid (dgV_size hdl); clear hdl)
    | (refine wpList_store_row rfl 25 (.tmp 2) (.tmp 4) rfl w.heap.size (b8s d).toArray rfl rfl 25 (b8s (List.replicate 32 0)).toArray (Mur.hp_below hB2 (Mur.hp_a1 _ _)) (by rw [hDZ.out]; kernel_rfl) (by rw [HZ.out, hDZ.out]) (Mur.b8s_all _) ?_))
  refine bodyPost_ret (v := .agg (b8s d).toArray) (results_cell_row rfl _ _ w.heap.size 25 (b8s d).toArray (0, 0) _ rfl (setRow_heap _ _ _ _ _ _ (Mur.hp_below hB2 (Mur.hp_a1 _ _))) Tryd.underlying25 rfl (by rw [hDZ.out]; kernel_rfl)) rfl ⟨d, hd, by simpa [Mur.b8s_length] using hDZ.out, rfl, below_setRow ((HB1.out _).trans (hB2.mono (by simp))) (Nat.le_refl _) _⟩
end Go.Proofs.YtljfjjofhclhiaaDoor
