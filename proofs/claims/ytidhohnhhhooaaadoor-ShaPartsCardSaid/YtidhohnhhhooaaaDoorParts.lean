/- sha.Parts, walked: the digest of a tag and parts. -/
import Derived.Test.YtidhohnhhhooaaaDoorRow
namespace Mur
open Go Go.RowKit
/-- A slice of bytes. -/
structure Seg where
  A : Option Addr
  n : Nat
  c : Nat
  l : List UInt8
def Seg.v (s : Seg) : Value := .slice s.A s.n s.c
def SegOk (w : World) (s : Seg) : Prop := s.n ≤ s.c ∧ (s.A = none → s.c = 0) ∧ Byt w s.A s.n s.l
theorem SegOk.below {w w1 : World} {s : Seg} (h : SegOk w s) (hb : Below w.heap.size w w1) : SegOk w1 s := ⟨h.1, h.2.1, h.2.2.below hb⟩
/-- A slice of slices of bytes. -/
def Segs (w : World) (A : Option Addr) (n : Nat) (L : List Seg) : Prop :=
  L.length = n ∧ (∀ s ∈ L, SegOk w s) ∧ (0 < n → ∃ g off, A = some ⟨g, off, none⟩ ∧ ∀ i s, L[i]? = some s → w.cell? ⟨g, off + i, none⟩ = some s.v)
theorem Segs.below {w w1 : World} {A : Option Addr} {n : Nat} {L : List Seg} (h : Segs w A n L) (hb : Below w.heap.size w w1) : Segs w1 A n L :=
  ⟨h.1, fun s hs => (h.2.1 s hs).below hb, fun hn => by
    obtain ⟨g, off, e, hc⟩ := h.2.2 hn
    exact ⟨g, off, e, fun i s hi => cell_below hb (hc i s hi)⟩⟩
/-- All their bytes. -/
def flat (L : List Seg) : List UInt8 := L.flatMap (·.l)
theorem flat_take {L : List Seg} {i : Nat} {s : Seg} (h : L[i]? = some s) : flat (L.take (i + 1)) = flat (L.take i) ++ s.l := by
  have hi : i < L.length := (List.getElem?_eq_some_iff.1 h).1
  have he : L[i] = s := (List.getElem?_eq_some_iff.1 h).2
  rw [List.take_succ_eq_append_getElem hi, he]
  simp [flat]
theorem flat_take_le {L : List Seg} (i : Nat) : (flat (L.take i)).length ≤ (flat L).length := by
  have : flat L = flat (L.take i) ++ flat (L.drop i) := by rw [flat, flat, flat, ← List.flatMap_append, List.take_append_drop]
  rw [this, List.length_append]
  omega
end Mur
namespace Go.Proofs.YtidhohnhhhooaaaDoor
open Go.RowKit
open Mur (St w32 u32s cell_u32s free_row set_u32s b8s dgV Byt cutA Seg Segs flat)
set_option maxRecDepth 100000
set_option maxHeartbeats 1000000
theorem Parts_any (x : UInt8) (L : List Seg) (A : Option Addr) (n c : Nat) (w : World) (hv : ShaVars w) (hL : Segs w A n L) (hn : n ≤ 9223372036854775807) (hf : (flat L).length ≤ 140737488351000) :
    Calls Tryd.prog 10 #[.int .u8 (x.toNat : Int), .slice A n c] w fun e w' => ∃ d, Hid (d = Mur.sha (x :: flat L)) ∧ d.length = 32 ∧ e = .returned (.agg (b8s d).toArray) ∧ Below w.heap.size w w' := by
  have HV := Go.Lib.hid hv; clear hv
  have HL := Go.Lib.hid hL; clear hL
  go_enter Tryd.func10, Tryd.ntmps10
  go_wp2
  go_loopw [5, 12] (fun v t wr => ∃ (i N : Nat) (T : List UInt8), i ≤ n ∧ t = .int .i64 i ∧ Hid (T = x :: flat (L.take i)) ∧ lenOf v = N ∧ Hid (N = T.length) ∧ wr.ownsRow (w.heap.size + 1) 5 1 v N (b8s T) ∧ Below w.heap.size w wr ∧ w.heap.size + 1 ≤ wr.heap.size ∧
      wr.heap[w.heap.size]? = some (.cells (b8s (List.replicate 32 0)).toArray 30 (0, 0))) (fun _ t _ => n - (intOf t).toNat)
  case atStart =>
    refine ⟨0, 1, [x], by omega, rfl, Go.Lib.hid rfl, rfl, Go.Lib.hid rfl, ?_, ((Below.refl _ _).alloc (Nat.le_refl _) _).alloc (by simp) _, by simp, (Mur.hp_old (Mur.hp_a1 _ _) _).trans rfl⟩
    exact ⟨rfl, .inr ⟨w.heap.size + 1, 1, #[.int .u8 (x.toNat : Int)], rfl, Nat.le_refl _, Mur.hp_a2 _ _ _, Nat.le_refl _, by unfold maxLen; omega, rfl, rfl⟩⟩
  case round =>
    obtain ⟨i, N, T, hi, rfl, HT, hv, HN, HO, HB, hsz, HP⟩ := hrel
    obtain ⟨A3, c3, rfl, hc3, hm3, HB3⟩ := Mur.own_byt HO
    have HA3 := Go.Lib.hid (Mur.own_nil HO)
    clear hv
    by_cases hlt : i < n
    · obtain ⟨g, off, rfl, hc⟩ := HL.out.2.2 (by omega)
      have hil : i < L.length := by rw [HL.out.1]; exact hlt
      obtain ⟨s, hs⟩ : ∃ s, L[i]? = some s := ⟨_, List.getElem?_eq_getElem hil⟩
      have hcell := hc i s hs
      have hg : g < w.heap.size := World.block_lt_of_cell? w ⟨g, off + i, none⟩ hcell
      have hcw : wr.cell? ⟨g, off + i, none⟩ = some s.v := (HB.cell (p := ⟨g, off + i, none⟩) hg).trans hcell
      obtain ⟨h1, h2, h3⟩ := HL.out.2.1 s (List.mem_of_getElem? hs)
      obtain ⟨As, ns, cs, ls⟩ := s
      simp only [Mur.Seg.v] at hcw h1 h2 h3
      have HS := Go.Lib.hid hs; clear hs
      have HY := Go.Lib.hid h3; clear h3
      have H2 := Go.Lib.hid h2; clear h2
      clear hc hcell HA3
      have hlen : N + ns ≤ 140737488355328 := by
        have e1 := HN.out
        have e2 := HY.out.1
        have e3 : flat (L.take (i + 1)) = flat (L.take i) ++ ls := Mur.flat_take HS.out
        have e4 := Mur.flat_take_le (L := L) (i + 1)
        rw [HT.out] at e1
        rw [e3, List.length_append] at e4
        simp only [List.length_cons] at e1
        omega
      go_wp2_with (at_builtin; refine Mur.wpList_append_byt (w0 := wr) (w.heap.size + 1) rfl (.tmp 16) (.tmp 17) 22 5 rfl Tryd.underlying22 (by kernel_rfl) (.slice A3 N c3) N T ls As ns cs rfl rfl HO (HY.out.below HB) H2.out (Below.refl _ _) hsz hlen ?_; intro v4 w4 HO4 HB4 hg4 hat4)
      refine ⟨⟨i + 1, N + ns, T ++ ls, by omega, by go_num, Go.Lib.hid ?_, ?_, Go.Lib.hid ?_, HO4, HB.trans (HB4.mono (by omega)), Nat.le_trans hsz HB4.size, (HB4.block _ (by omega)).trans HP⟩, by simp [intOf]; omega⟩
      · rw [HT.out, Mur.flat_take HS.out]
        rfl
      · obtain ⟨_, _, rfl, _⟩ := Mur.own_byt HO4
        rfl
      · rw [List.length_append, ← HN.out, HY.out.1]
    · obtain rfl : i = n := by omega
      have HTT : Hid (T = x :: flat L) := Go.Lib.hid (by rw [HT.out, List.take_of_length_le (by rw [HL.out.1]; exact Nat.le_refl _)])
      have hN : N ≤ 140737488351232 := by rw [HN.out, HTT.out, List.length_cons]; omega
      have HYT := Go.Lib.hid HB3; clear HB3 HO HT hm3
      go_wp2_with (first
        | (go_at_call 13; refine (sum_var T A3 N c3 wr (HV.out.below HB) HYT.out hc3 HA3.out hN).mono ?_; rintro e w2 ⟨d, hd, hdl, rfl, hB2⟩; have hDZ := Go.Lib.hid (dgV_size hdl); have HDL := Go.Lib.hid hdl; clear hdl)
        | (refine Mur.wpList_put rfl 30 (.tmp 4) (.tmp 21) rfl w.heap.size (b8s d).toArray rfl rfl 30 (b8s (List.replicate 32 0)).toArray (Mur.hp_below hB2 HP) (by rw [hDZ.out]; kernel_rfl) (by rw [hDZ.out]; rfl) (Mur.b8s_all _) ?_; intro w5 hp5 hw5; have hp5' := Go.Lib.hid hp5; clear hp5))
      refine bodyPost_ret (v := .agg (b8s d).toArray) (results_cell_row rfl _ _ w.heap.size 30 (b8s d).toArray (0, 0) _ rfl hp5'.out Tryd.underlying30 rfl (by rw [hDZ.out]; kernel_rfl)) rfl ⟨d, Go.Lib.hid (by rw [hd.out, HTT.out]), HDL.out, rfl, (Mur.below_then HB HB.size hB2).trans (hw5.below (Nat.le_refl _))⟩
end Go.Proofs.YtidhohnhhhooaaaDoor
