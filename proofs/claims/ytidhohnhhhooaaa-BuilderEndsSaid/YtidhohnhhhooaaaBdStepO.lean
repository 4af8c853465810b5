/- The builder's Step, walked. -/
import Derived.Test.YtidhohnhhhooaaaBdStepA
import Derived.Test.YtidhohnhhhooaaaBdStepB
import Derived.Test.YtidhohnhhhooaaaBdStepC
namespace Go.Proofs.Ytidhohnhhhooaaa
open Go.RowKit
open Mur (Trn Fct Upd)
set_option maxRecDepth 100000
set_option maxHeartbeats 4000000
theorem step_any (t : Trn) (now : Int) (f : Fct) (g : Nat) (w : World) (hg : w.heap[g]? = some (.cells t.cells 41 (0, 0))) (hok : t.Ok) (hn : 0 ≤ now ∧ now ≤ 1000000000) :
    Calls Try.prog 12 #[.pointer (some ⟨g, 0, none⟩), .int .i64 now, .agg f.cells.toArray] w
      fun e w' => e = .returned (.int .u8 (t.stp now f).2) ∧ Upd g 41 (t.stp now f).1.cells w w' := by
  by_cases h1 : f.stored = true ∨ t.state = 3
  · exact step_A t now f g w hg hok hn h1
  · have h2 : f.stored = false := by
      cases h : f.stored
      · rfl
      · exact absurd (.inl h) h1
    by_cases h3 : t.state = 2
    · exact step_B t now f g w hg hok hn h2 h3
    · exact step_C t now f g w hg hok hn h2 (fun h => h1 (.inr h)) h3
theorem Step_nil (now : Int) (f : Fct) (w : World) :
    Calls Try.prog 10 #[.pointer none, .int .i64 now, .agg f.cells.toArray] w fun e w' => e = .returned (.int .u8 0) ∧ w' = w.alloc (.cells f.cells.toArray 28) := by
  obtain ⟨stored, heard, lease, ready, fet, failed, ran, wrong⟩ := f
  simp only [Fct.cells]
  go_enter Try.func10, Try.ntmps10
  go_wp2
  go_ret
  exact ⟨rfl, rfl⟩
theorem Step_any (t : Trn) (now : Int) (f : Fct) (g : Nat) (w : World) (hg : w.heap[g]? = some (.cells t.cells 41 (0, 0))) (hok : t.Ok) (hn : 0 ≤ now ∧ now ≤ 1000000000) :
    Calls Try.prog 10 #[.pointer (some ⟨g, 0, none⟩), .int .i64 now, .agg f.cells.toArray] w
      fun e w' => e = .returned (.int .u8 (t.Step now f).2) ∧ Upd g 41 (t.Step now f).1.cells w w' := by
  have HOK := Go.Lib.hid hok; clear hok
  have HN := Go.Lib.hid hn; clear hn
  have U0 := Upd.refl hg
  have U := Go.Lib.hid U0
  have hlt : g < w.heap.size := U0.lt
  clear U0
  have c2 : w.cell? ⟨g, 2, none⟩ = some (.int .i64 t.state) := cell_of_row w g 2 _ _ _ hg
  have c3 : w.cell? ⟨g, 3, none⟩ = some (.bool t.begun) := cell_of_row w g 3 _ _ _ hg
  have c4 : w.cell? ⟨g, 4, none⟩ = some (.int .i64 t.first) := cell_of_row w g 4 _ _ _ hg
  have c7 : w.cell? ⟨g, 7, none⟩ = some (.int .u8 t.last) := cell_of_row w g 7 _ _ _ hg
  have z : ∀ k, w.frozen? ⟨g, k, none⟩ = false := fun k => frozen_of_row w g k _ _ hg
  have HG := Go.Lib.hid hg; clear hg
  obtain ⟨most, budget, state, begun, first, fetched, fetch, last⟩ := t
  obtain ⟨stored, heard, lease, ready, fet, failed, ran, wrong⟩ := f
  simp only at *
  simp only [Fct.cells]
  by_cases h0 : state = 0
  · subst h0
    go_enter Try.func10, Try.ntmps10
    go_wp2
    go_ret
    refine ⟨rfl, ?_⟩
    exact U.out.alloc _
  · have e0 : ((state : Int) == 0) = false := by simpa using h0
    by_cases h4 : state = 4
    · subst h4
      clear h0 e0
      cases begun
      · go_enter Try.func10, Try.ntmps10
        go_wp2
        go_ret
        refine ⟨rfl, ?_⟩
        apply Upd.fin
        · repeat (first | exact U.out | apply Upd.drewN | apply Upd.drew | apply Upd.alloc | apply Upd.set)
        · rfl
      · go_enter Try.func10, Try.ntmps10
        go_wp2
        go_ret
        refine ⟨rfl, ?_⟩
        exact U.out.alloc _
    · have e4 : ((state : Int) != 4) = true := by simpa using h4
      cases begun
      · have hs : Trn.Step ⟨most, budget, state, false, first, fetched, fetch, last⟩ now ⟨stored, heard, lease, ready, fet, failed, ran, wrong⟩ = ({ (Trn.stp ⟨most, budget, state, true, now, fetched, fetch, last⟩ now ⟨stored, heard, lease, ready, fet, failed, ran, wrong⟩).1 with last := (Trn.stp ⟨most, budget, state, true, now, fetched, fetch, last⟩ now ⟨stored, heard, lease, ready, fet, failed, ran, wrong⟩).2 }, (Trn.stp ⟨most, budget, state, true, now, fetched, fetch, last⟩ now ⟨stored, heard, lease, ready, fet, failed, ran, wrong⟩).2) := by
          simp [Trn.Step, Trn.start, h0, h4]
        have HS := Go.Lib.hid hs; clear hs
        have HK : Hid (Trn.Ok ⟨most, budget, state, true, now, fetched, fetch, last⟩) := Go.Lib.hid (HOK.out.start now HN.out)
        have HP : ∀ W, Upd g 41 (Trn.cells ⟨most, budget, state, true, now, fetched, fetch, last⟩) w W → Calls Try.prog 12 #[.pointer (some ⟨g, 0, none⟩), .int .i64 now, .agg #[.bool stored, .bool heard, .bool lease, .bool ready, .bool fet, .bool failed, .bool ran, .bool wrong]] W
          fun e w' => ∃ r, Hid (r = Trn.stp ⟨most, budget, state, true, now, fetched, fetch, last⟩ now ⟨stored, heard, lease, ready, fet, failed, ran, wrong⟩) ∧ e = .returned (.int .u8 r.2) ∧ Upd g 41 r.1.cells w w' := by
          intro W hW
          have := step_any ⟨most, budget, state, true, now, fetched, fetch, last⟩ now ⟨stored, heard, lease, ready, fet, failed, ran, wrong⟩ g W hW.self HK.out HN.out
          exact this.mono fun e w' ⟨h1, h2⟩ => ⟨_, rfl, h1, hW.trans h2⟩
        have HPP := Go.Lib.hid HP; clear HP
        go_enter Try.func10, Try.ntmps10
        go_wp2_with fail
        refine (HPP.out _ ?_).mono ?_
        · apply Upd.fin
          · repeat (first | exact U.out | apply Upd.drewN | apply Upd.drew | apply Upd.alloc | apply Upd.set)
          · rfl
        rintro e w1 ⟨⟨⟨m1, b1, s1, bg1, f1, fd1, ft1, l1⟩, k1⟩, HR, rfl, hu⟩
        have d7 : w1.cell? ⟨g, 7, none⟩ = some (.int .u8 l1) := cell_of_row w1 g 7 _ _ _ hu.self
        have zz : ∀ k, w1.frozen? ⟨g, k, none⟩ = false := fun k => frozen_of_row w1 g k _ _ hu.self
        have HU := Go.Lib.hid hu; clear hu
        go_wp2
        go_ret
        rw [HS.out, ← HR.out]
        exact ⟨rfl, (HU.out.set 7 _).fin rfl⟩
      · have hs : Trn.Step ⟨most, budget, state, true, first, fetched, fetch, last⟩ now ⟨stored, heard, lease, ready, fet, failed, ran, wrong⟩ = ({ (Trn.stp ⟨most, budget, state, true, first, fetched, fetch, last⟩ now ⟨stored, heard, lease, ready, fet, failed, ran, wrong⟩).1 with last := (Trn.stp ⟨most, budget, state, true, first, fetched, fetch, last⟩ now ⟨stored, heard, lease, ready, fet, failed, ran, wrong⟩).2 }, (Trn.stp ⟨most, budget, state, true, first, fetched, fetch, last⟩ now ⟨stored, heard, lease, ready, fet, failed, ran, wrong⟩).2) := by
          simp [Trn.Step, Trn.start, h0, h4]
        have HS := Go.Lib.hid hs; clear hs
        have HP : ∀ W, Upd g 41 (Trn.cells ⟨most, budget, state, true, first, fetched, fetch, last⟩) w W → Calls Try.prog 12 #[.pointer (some ⟨g, 0, none⟩), .int .i64 now, .agg #[.bool stored, .bool heard, .bool lease, .bool ready, .bool fet, .bool failed, .bool ran, .bool wrong]] W
          fun e w' => ∃ r, Hid (r = Trn.stp ⟨most, budget, state, true, first, fetched, fetch, last⟩ now ⟨stored, heard, lease, ready, fet, failed, ran, wrong⟩) ∧ e = .returned (.int .u8 r.2) ∧ Upd g 41 r.1.cells w w' := by
          intro W hW
          have := step_any ⟨most, budget, state, true, first, fetched, fetch, last⟩ now ⟨stored, heard, lease, ready, fet, failed, ran, wrong⟩ g W hW.self HOK.out HN.out
          exact this.mono fun e w' ⟨h1, h2⟩ => ⟨_, rfl, h1, hW.trans h2⟩
        have HPP := Go.Lib.hid HP; clear HP
        go_enter Try.func10, Try.ntmps10
        go_wp2_with fail
        refine (HPP.out _ ?_).mono ?_
        · exact U.out.alloc _
        rintro e w1 ⟨⟨⟨m1, b1, s1, bg1, f1, fd1, ft1, l1⟩, k1⟩, HR, rfl, hu⟩
        have d7 : w1.cell? ⟨g, 7, none⟩ = some (.int .u8 l1) := cell_of_row w1 g 7 _ _ _ hu.self
        have zz : ∀ k, w1.frozen? ⟨g, k, none⟩ = false := fun k => frozen_of_row w1 g k _ _ hu.self
        have HU := Go.Lib.hid hu; clear hu
        go_wp2
        go_ret
        rw [HS.out, ← HR.out]
        exact ⟨rfl, (HU.out.set 7 _).fin rfl⟩
end Go.Proofs.Ytidhohnhhhooaaa
