/- The disk's laws' arguments, read, with what each slice takes. -/
import Derived.Test.YtddabjlhidokaaaRows
import Derived.Test.YtddabjlhidokaaaOpenC
import Derived.Test.YtddabjlhidokaaaDkOps
import Derived.Test.YtddabjlhidokaaaDkOpen
import Derived.Test.YtddabjlhidokaaaSized
namespace Go.Proofs.Ytddabjlhidokaaa
open Go.RowKit Go.WideShapes Go.ChangeShapes
open Mur (All2 Leaf LeafW Dop Dops)
section
variable {H : Type} {enc : TypeId × Value → H} {W : World}
theorem bB : Try.prog.bytesOf 5 = 1 := by kernel_rfl
theorem leaf_opW {r : List Value} (h : All2 (LeafW enc Try.prog W 0 (fun _ => true) true) [3, 3, 26, 3, 3] r) : ∃ x : Dop, r = x.cells ∧ x.Ok W ∧ x.c ≤ 140737488351232 := by
  rcases h with _ | ⟨h0, h⟩
  rcases h with _ | ⟨h1, h⟩
  rcases h with _ | ⟨h2, h⟩
  rcases h with _ | ⟨h3, h⟩
  rcases h with _ | ⟨h4, h⟩
  cases h
  obtain ⟨kd, rfl, _⟩ := Mur.leaf_int Try.underlying3 h0.leaf
  obtain ⟨f, rfl, _⟩ := Mur.leaf_int Try.underlying3 h1.leaf
  obtain ⟨A, n, c, l, rfl, q1, q2, q3, q4, q5⟩ := Mur.leaf_bytW Try.underlying26 Try.underlying5 cB bB h2
  obtain ⟨k0, rfl, _⟩ := Mur.leaf_int Try.underlying3 h3.leaf
  obtain ⟨k1, rfl, _⟩ := Mur.leaf_int Try.underlying3 h4.leaf
  exact ⟨⟨kd, f, A, n, c, l, k0, k1⟩, rfl, ⟨q4, q1, by unfold maxLen at q2; omega, q3⟩, q5⟩
theorem open_opsW {v : Value} {d : DataW H} {ps : List MemPlace} {r0 : Reach} {b0 : Nat} (hval : Value.okWide Try.prog W r0 b0 22 v) (h : DataW.Trod enc Try.prog W 0 (fun _ => true) true 22 v d ps) (hw : ∀ n ∈ d.weights Try.prog 22, n ≤ reachBytes) :
    ∃ A n c L, v = .slice A n c ∧ (n ≤ c ∧ n ≤ 9223372036854775807) ∧ Dops W A n L ∧ ∀ x ∈ L, x.c ≤ 140737488351232 := by
  obtain ⟨A, n, c, rows, rfl, hnc, hcm, _, hlen, hrows, hat⟩ := Mur.open_rowsW 6 _ Try.underlying22 leafs_op cOp (by decide) (Mur.slice_cells Try.underlying22 ⟨_, _, hval⟩) h hw
  have key : ∀ rows : List (List Value), (∀ r ∈ rows, All2 (LeafW enc Try.prog W 0 (fun _ => true) true) [3, 3, 26, 3, 3] r) → ∃ L : List Dop, rows = L.map Dop.cells ∧ ∀ x ∈ L, x.Ok W ∧ x.c ≤ 140737488351232 := by
    intro rows
    induction rows with
    | nil => exact fun _ => ⟨[], rfl, by simp⟩
    | cons r rows ih =>
      intro hr
      obtain ⟨L, rfl, h1⟩ := ih fun x hx => hr x (by simp [hx])
      obtain ⟨x, rfl, hx⟩ := leaf_opW (hr r (by simp))
      exact ⟨x :: L, rfl, by
        intro y hy
        rcases List.mem_cons.1 hy with rfl | hy
        · exact hx
        · exact h1 y hy⟩
  obtain ⟨L, rfl, hok⟩ := key rows hrows
  refine ⟨A, n, c, L, rfl, ⟨hnc, by unfold maxLen at hcm; omega⟩, ⟨by simpa using hlen, fun x hx => (hok x hx).1, fun hn => ?_⟩, fun x hx => (hok x hx).2⟩
  obtain ⟨g, off, e, hr⟩ := hat hn
  exact ⟨g, off, e, fun i x hx => hr i x.cells (by simp [hx])⟩
end
end Go.Proofs.Ytddabjlhidokaaa
