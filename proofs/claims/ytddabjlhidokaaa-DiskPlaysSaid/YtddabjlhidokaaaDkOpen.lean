/- The disk's laws' arguments, read. -/
import Derived.Test.YtddabjlhidokaaaRows
import Derived.Test.YtddabjlhidokaaaOpenC
import Derived.Test.YtddabjlhidokaaaDkOps
namespace Go.Proofs.Ytddabjlhidokaaa
open Go.RowKit Go.WideShapes Go.ChangeShapes
open Mur (All2 Leaf Dop Dops)
theorem own : ownKnob Try.prog.godebug = none := by kernel_rfl
theorem laidOut : laidOutB Try.prog = true := by kernel_rfl
noncomputable def w0 (os : Os) : World := World.holding Try.prog os ⟨#[], #[], []⟩
section
variable {H : Type} {enc : TypeId × Value → H} {W : World}
theorem leafs_op : Mur.leafs Try.prog 6 29 = some [3, 3, 26, 3, 3] := by kernel_rfl
theorem cOp : Try.prog.cellsOf 29 = 5 := by kernel_rfl
theorem cB : Try.prog.cellsOf 5 = 1 := by kernel_rfl
theorem leaf_op {r : List Value} (h : All2 (Leaf enc Try.prog W 0 (fun _ => true) true) [3, 3, 26, 3, 3] r) : ∃ x : Dop, r = x.cells ∧ x.Ok W := by
  rcases h with _ | ⟨h0, h⟩
  rcases h with _ | ⟨h1, h⟩
  rcases h with _ | ⟨h2, h⟩
  rcases h with _ | ⟨h3, h⟩
  rcases h with _ | ⟨h4, h⟩
  cases h
  obtain ⟨kd, rfl, _⟩ := Mur.leaf_int Try.underlying3 h0
  obtain ⟨f, rfl, _⟩ := Mur.leaf_int Try.underlying3 h1
  obtain ⟨A, n, c, l, rfl, q1, q2, q3, q4⟩ := Mur.leaf_byt Try.underlying26 Try.underlying5 cB h2
  obtain ⟨k0, rfl, _⟩ := Mur.leaf_int Try.underlying3 h3
  obtain ⟨k1, rfl, _⟩ := Mur.leaf_int Try.underlying3 h4
  exact ⟨⟨kd, f, A, n, c, l, k0, k1⟩, rfl, q4, q1, by unfold maxLen at q2; omega, q3⟩
theorem open_ops {v : Value} {d : DataW H} {ps : List MemPlace} {r0 : Reach} {b0 : Nat} (hval : Value.okWide Try.prog W r0 b0 22 v) (h : DataW.Trod enc Try.prog W 0 (fun _ => true) true 22 v d ps) :
    ∃ A n c L, v = .slice A n c ∧ (n ≤ c ∧ n ≤ 9223372036854775807) ∧ Dops W A n L := by
  obtain ⟨A, n, c, rows, rfl, hnc, hcm, _, hlen, hrows, hat⟩ := Mur.open_rows 6 _ Try.underlying22 leafs_op cOp (by decide) (Mur.slice_cells Try.underlying22 ⟨_, _, hval⟩) h
  have key : ∀ rows : List (List Value), (∀ r ∈ rows, All2 (Leaf enc Try.prog W 0 (fun _ => true) true) [3, 3, 26, 3, 3] r) → ∃ L : List Dop, rows = L.map Dop.cells ∧ ∀ x ∈ L, x.Ok W := by
    intro rows
    induction rows with
    | nil => exact fun _ => ⟨[], rfl, by simp⟩
    | cons r rows ih =>
      intro hr
      obtain ⟨L, rfl, h1⟩ := ih fun x hx => hr x (by simp [hx])
      obtain ⟨x, rfl, hx⟩ := leaf_op (hr r (by simp))
      exact ⟨x :: L, rfl, by
        intro y hy
        rcases List.mem_cons.1 hy with rfl | hy
        · exact hx
        · exact h1 y hy⟩
  obtain ⟨L, rfl, hok⟩ := key rows hrows
  refine ⟨A, n, c, L, rfl, ⟨hnc, by unfold maxLen at hcm; omega⟩, by simpa using hlen, hok, fun hn => ?_⟩
  obtain ⟨g, off, e, hr⟩ := hat hn
  exact ⟨g, off, e, fun i x hx => hr i x.cells (by simp [hx])⟩
theorem open_keep {v : Value} {d : DataW H} {ps : List MemPlace} {r0 : Reach} {b0 : Nat} (hval : Value.okWide Try.prog W r0 b0 27 v) (h : DataW.Trod enc Try.prog W 0 (fun _ => true) true 27 v d ps) : ∃ q0 q1, v = .agg #[.int .i64 q0, .int .i64 q1] := by
  obtain ⟨cs, rfl, ha⟩ := Mur.open_agg (ls := [3, 3]) 6 (.inl ⟨_, _, Try.underlying27⟩) (by kernel_rfl) ⟨_, _, hval⟩ h
  obtain ⟨l⟩ := cs
  simp only at ha
  rcases ha with _ | ⟨h0, ha⟩
  rcases ha with _ | ⟨h1, ha⟩
  cases ha
  obtain ⟨q0, rfl, _⟩ := Mur.leaf_int Try.underlying3 h0
  obtain ⟨q1, rfl, _⟩ := Mur.leaf_int Try.underlying3 h1
  exact ⟨q0, q1, rfl⟩
theorem open_bs {v : Value} {d : DataW H} {ps : List MemPlace} {r0 : Reach} {b0 : Nat} (hval : Value.okWide Try.prog W r0 b0 26 v) (h : DataW.Trod enc Try.prog W 0 (fun _ => true) true 26 v d ps) : ∃ A n c l, v = .slice A n c ∧ n ≤ c ∧ c ≤ maxLen ∧ (A = none → c = 0) ∧ Mur.Byt W A n l :=
  Mur.open_byt Try.underlying26 Try.underlying5 cB ⟨_, _, hval⟩ h
theorem open_op {v : Value} {d : DataW H} {ps : List MemPlace} {r0 : Reach} {b0 : Nat} (hval : Value.okWide Try.prog W r0 b0 29 v) (h : DataW.Trod enc Try.prog W 0 (fun _ => true) true 29 v d ps) : ∃ x : Dop, v = .agg x.cells.toArray ∧ x.Ok W := by
  obtain ⟨cs, rfl, ha⟩ := Mur.open_agg 6 (.inr ⟨_, Try.underlying29⟩) leafs_op ⟨_, _, hval⟩ h
  obtain ⟨x, hx, ho⟩ := leaf_op ha
  exact ⟨x, by rw [← hx], ho⟩
end
end Go.Proofs.Ytddabjlhidokaaa
