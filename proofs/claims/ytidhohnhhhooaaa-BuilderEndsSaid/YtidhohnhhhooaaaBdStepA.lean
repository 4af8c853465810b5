/- The builder's step, walked: told that it is stored, or running. -/
import Derived.Test.YtidhohnhhhooaaaBdWalk
namespace Go.Proofs.Ytidhohnhhhooaaa
open Go.RowKit
open Mur (Trn Fct Upd)
set_option maxRecDepth 100000
set_option maxHeartbeats 8000000
theorem step_A (t : Trn) (now : Int) (f : Fct) (g : Nat) (w : World) (hg : w.heap[g]? = some (.cells t.cells 41 (0, 0))) (hok : t.Ok) (hn : 0 ≤ now ∧ now ≤ 1000000000) (hx : f.stored = true ∨ t.state = 3) :
    Calls Try.prog 12 #[.pointer (some ⟨g, 0, none⟩), .int .i64 now, .agg f.cells.toArray] w
      fun e w' => e = .returned (.int .u8 (t.stp now f).2) ∧ Upd g 41 (t.stp now f).1.cells w w' := by
  obtain ⟨⟨a1, a2⟩, ⟨a3, a4⟩, ⟨a5, a6⟩, ⟨a7, a8⟩⟩ := hok
  obtain ⟨hn1, hn2⟩ := hn
  have U0 := Upd.refl hg
  have U := Go.Lib.hid U0
  have hlt : g < w.heap.size := U0.lt
  clear U0
  have c0 : w.cell? ⟨g, 0, none⟩ = some (.int .i64 t.most) := cell_of_row w g 0 _ _ _ hg
  have c1 : w.cell? ⟨g, 1, none⟩ = some (.int .i64 t.budget) := cell_of_row w g 1 _ _ _ hg
  have c2 : w.cell? ⟨g, 2, none⟩ = some (.int .i64 t.state) := cell_of_row w g 2 _ _ _ hg
  have c4 : w.cell? ⟨g, 4, none⟩ = some (.int .i64 t.first) := cell_of_row w g 4 _ _ _ hg
  have c5 : w.cell? ⟨g, 5, none⟩ = some (.bool t.fetched) := cell_of_row w g 5 _ _ _ hg
  have c6 : w.cell? ⟨g, 6, none⟩ = some (.int .i64 t.fetch) := cell_of_row w g 6 _ _ _ hg
  have z : ∀ k, w.frozen? ⟨g, k, none⟩ = false := fun k => frozen_of_row w g k _ _ hg
  have HG := Go.Lib.hid hg; clear hg
  obtain ⟨most, budget, state, begun, first, fetched, fetch, last⟩ := t
  obtain ⟨stored, heard, lease, ready, fet, failed, ran, wrong⟩ := f
  simp only at *
  simp only [Fct.cells]
  cases stored
  · have h3 : state = 3 := by simpa using hx
    subst h3
    clear hx
    cases ran
    · cases wrong
      · skip
        have hs : Trn.stp (⟨most, budget, 3, begun, first, fetched, fetch, last⟩ : Trn) now (⟨false, heard, lease, ready, fet, failed, false, false⟩ : Fct) = ((⟨most, budget, 3, begun, first, fetched, fetch, last⟩ : Trn), 3) := by simp [Trn.stp]
        have HS := Go.Lib.hid hs; clear hs
        go_enter Try.func12, Try.ntmps12
        go_wp2
        go_ret
        rw [HS.out]
        refine ⟨rfl, ?_⟩
        apply Upd.fin
        · repeat (first | exact U.out | apply Upd.drewN | apply Upd.drew | apply Upd.alloc | apply Upd.set)
        · rfl
      · skip
        have hs : Trn.stp (⟨most, budget, 3, begun, first, fetched, fetch, last⟩ : Trn) now (⟨false, heard, lease, ready, fet, failed, false, true⟩ : Fct) = ((⟨most, budget, 4, begun, first, fetched, fetch, last⟩ : Trn), 5) := by simp [Trn.stp]
        have HS := Go.Lib.hid hs; clear hs
        go_enter Try.func12, Try.ntmps12
        go_wp2_with (go_at_call 13; refine (end_any (⟨most, budget, 3, begun, first, fetched, fetch, last⟩ : Trn) _ g _ (Mur.hpOld HG.out _)).mono ?_; rintro e w' ⟨rfl, rfl⟩)
        go_ret
        rw [HS.out]
        refine ⟨rfl, ?_⟩
        apply Upd.fin
        · repeat (first | exact U.out | apply Upd.drewN | apply Upd.drew | apply Upd.alloc | apply Upd.set)
        · rfl
    · skip
      have hs : Trn.stp (⟨most, budget, 3, begun, first, fetched, fetch, last⟩ : Trn) now (⟨false, heard, lease, ready, fet, failed, true, wrong⟩ : Fct) = ((⟨most, budget, 4, begun, first, fetched, fetch, last⟩ : Trn), 4) := by simp [Trn.stp]
      have HS := Go.Lib.hid hs; clear hs
      go_enter Try.func12, Try.ntmps12
      go_wp2_with (go_at_call 13; refine (end_any (⟨most, budget, 3, begun, first, fetched, fetch, last⟩ : Trn) _ g _ (Mur.hpOld HG.out _)).mono ?_; rintro e w' ⟨rfl, rfl⟩)
      go_ret
      rw [HS.out]
      refine ⟨rfl, ?_⟩
      apply Upd.fin
      · repeat (first | exact U.out | apply Upd.drewN | apply Upd.drew | apply Upd.alloc | apply Upd.set)
      · rfl
  · clear hx
    have hs : Trn.stp (⟨most, budget, state, begun, first, fetched, fetch, last⟩ : Trn) now (⟨true, heard, lease, ready, fet, failed, ran, wrong⟩ : Fct) = ((⟨most, budget, 4, begun, first, fetched, fetch, last⟩ : Trn), 4) := by simp [Trn.stp]
    have HS := Go.Lib.hid hs; clear hs
    go_enter Try.func12, Try.ntmps12
    go_wp2_with (go_at_call 13; refine (end_any (⟨most, budget, state, begun, first, fetched, fetch, last⟩ : Trn) _ g _ (Mur.hpOld HG.out _)).mono ?_; rintro e w' ⟨rfl, rfl⟩)
    go_ret
    rw [HS.out]
    refine ⟨rfl, ?_⟩
    apply Upd.fin
    · repeat (first | exact U.out | apply Upd.drewN | apply Upd.drew | apply Upd.alloc | apply Upd.set)
    · rfl
end Go.Proofs.Ytidhohnhhhooaaa
