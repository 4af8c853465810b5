/- The builder's laws' arguments, read. -/
import Derived.Test.YtidhohnhhhooaaaRows
import Derived.Test.YtidhohnhhhooaaaFlat
import Derived.Test.YtidhohnhhhooaaaPost
import Derived.Test.YtidhohnhhhooaaaBdCon
namespace Go.Proofs.Ytidhohnhhhooaaa
open Go.RowKit Go.WideShapes Go.ChangeShapes
open Mur (Trn Fct Upd Tls Tolds All2 Leaf)
theorem own : ownKnob Try.prog.godebug = none := by kernel_rfl
theorem laidOut : laidOutB Try.prog = true := by kernel_rfl
noncomputable def w0 (os : Os) : World := World.holding Try.prog os ⟨#[], #[], []⟩
section
variable {H : Type} {enc : TypeId × Value → H} {W : World}
theorem leaf_fct {r : List Value} (h : All2 (Leaf enc Try.prog W 0 (fun _ => true) true) [4, 4, 4, 4, 4, 4, 4, 4] r) : ∃ f : Fct, r = f.cells := by
  rcases h with _ | ⟨h0, h⟩
  rcases h with _ | ⟨h1, h⟩
  rcases h with _ | ⟨h2, h⟩
  rcases h with _ | ⟨h3, h⟩
  rcases h with _ | ⟨h4, h⟩
  rcases h with _ | ⟨h5, h⟩
  rcases h with _ | ⟨h6, h⟩
  rcases h with _ | ⟨h7, h⟩
  cases h
  obtain ⟨b0, rfl⟩ := Mur.leaf_bool Try.underlying4 h0
  obtain ⟨b1, rfl⟩ := Mur.leaf_bool Try.underlying4 h1
  obtain ⟨b2, rfl⟩ := Mur.leaf_bool Try.underlying4 h2
  obtain ⟨b3, rfl⟩ := Mur.leaf_bool Try.underlying4 h3
  obtain ⟨b4, rfl⟩ := Mur.leaf_bool Try.underlying4 h4
  obtain ⟨b5, rfl⟩ := Mur.leaf_bool Try.underlying4 h5
  obtain ⟨b6, rfl⟩ := Mur.leaf_bool Try.underlying4 h6
  obtain ⟨b7, rfl⟩ := Mur.leaf_bool Try.underlying4 h7
  exact ⟨⟨b0, b1, b2, b3, b4, b5, b6, b7⟩, rfl⟩
theorem leafs_op : Mur.leafs Try.prog 5 30 = some [3, 4, 4, 4, 4, 4, 4, 4, 4] := by kernel_rfl
theorem leafs_facts : Mur.leafs Try.prog 5 28 = some [4, 4, 4, 4, 4, 4, 4, 4] := by kernel_rfl
theorem leafs_bool : Mur.leafs Try.prog 5 4 = some [4] := by kernel_rfl
theorem leafs_int : Mur.leafs Try.prog 5 3 = some [3] := by kernel_rfl
theorem cOp : Try.prog.cellsOf 30 = 9 := by kernel_rfl
theorem cFacts : Try.prog.cellsOf 28 = 8 := by kernel_rfl
theorem cInt : Try.prog.cellsOf 3 = 1 := by kernel_rfl
theorem cBool : Try.prog.cellsOf 4 = 1 := by kernel_rfl
theorem open_ops {v : Value} {d : DataW H} {ps : List MemPlace} {r0 : Reach} {b0 : Nat} (hval : Value.okWide Try.prog W r0 b0 22 v) (h : DataW.Trod enc Try.prog W 0 (fun _ => true) true 22 v d ps) :
    ∃ A n c L, v = .slice A n c ∧ n ≤ 9223372036854775807 ∧ Tolds W A n L := by
  obtain ⟨A, n, c, rows, rfl, hnc, hcm, _, hlen, hrows, hat⟩ := Mur.open_rows 5 _ Try.underlying22 leafs_op cOp (by decide) (Mur.slice_cells Try.underlying22 ⟨_, _, hval⟩) h
  obtain ⟨L, rfl⟩ := Mur.rows_decode (fun p : Int × Fct => .int .i64 p.1 :: p.2.cells) rows fun r hr => by
    rcases hrows r hr with _ | ⟨h0, hx⟩
    obtain ⟨x, rfl, _⟩ := Mur.leaf_int Try.underlying3 h0
    obtain ⟨f, rfl⟩ := leaf_fct hx
    exact ⟨(x, f), rfl⟩
  refine ⟨A, n, c, L, rfl, by unfold maxLen at hcm; omega, by simpa using hlen, fun hn => ?_⟩
  obtain ⟨g, off, e, hr⟩ := hat hn
  refine ⟨g, off, e, fun i x f hi => ?_⟩
  have hq := hr i (.int .i64 x :: f.cells) (by simp [hi])
  refine ⟨by have := hq 0 _ rfl; simpa using this, fun j v hj => ?_⟩
  have := hq (j + 1) v (by simpa using hj)
  rw [show off + i * [(3 : TypeId), 4, 4, 4, 4, 4, 4, 4, 4].length + (j + 1) = off + i * 9 + 1 + j by simp only [List.length_cons, List.length_nil]; omega] at this
  exact this
/-- Rows that are read one behind the other. -/
theorem sl_rows {w : World} {A : Option Addr} {n k : Nat} {rows : List (List Value)} (hlen : rows.length = n) (hk : ∀ r ∈ rows, r.length = k) (hat : 0 < n → ∃ g off, A = some ⟨g, off, none⟩ ∧ ∀ i r, rows[i]? = some r → w.rangeAt g (off + i * k) r) : Wk.Sl w A n k rows.flatten := by
  have hfl : ∀ rows : List (List Value), (∀ r ∈ rows, r.length = k) → rows.flatten.length = rows.length * k := by
    intro rows
    induction rows with
    | nil => intro _; simp
    | cons r rows ih => intro h; rw [List.flatten_cons, List.length_append, ih (fun x hx => h x (by simp [hx])), h r (by simp), List.length_cons, Nat.add_mul]; omega
  refine ⟨by rw [hfl rows hk, hlen], fun hne => ?_⟩
  have hn : 0 < n := by
    rcases rows with _ | ⟨r, rows⟩
    · exact absurd rfl hne
    · simp at hlen; omega
  obtain ⟨g, off, e, hr⟩ := hat hn
  refine ⟨g, off, e, ?_⟩
  have key : ∀ (rows : List (List Value)) (o : Nat), (∀ r ∈ rows, r.length = k) → (∀ i r, rows[i]? = some r → w.rangeAt g (o + i * k) r) → w.rangeAt g o rows.flatten := by
    intro rows
    induction rows with
    | nil => intro o _ _ j v hv; simp at hv
    | cons r rows ih =>
      intro o h hq j v hv
      rw [List.flatten_cons] at hv
      have hl := h r (by simp)
      rcases Nat.lt_or_ge j k with hj | hj
      · rw [List.getElem?_append_left (by omega)] at hv
        have := hq 0 r rfl j v hv
        rwa [Nat.zero_mul, Nat.add_zero] at this
      · rw [List.getElem?_append_right (by omega), hl] at hv
        have := ih (o + k) (fun x hx => h x (by simp [hx])) (fun i x hx => by
          have := hq (i + 1) x (by simpa using hx)
          rwa [show o + (i + 1) * k = o + k + i * k by rw [Nat.add_mul]; omega] at this) (j - k) v hv
        rwa [show o + k + (j - k) = o + j by omega] at this
  exact key rows off hk hr
theorem open_facts {v : Value} {d : DataW H} {ps : List MemPlace} {r0 : Reach} {b0 : Nat} (hval : Value.okWide Try.prog W r0 b0 38 v) (h : DataW.Trod enc Try.prog W 0 (fun _ => true) true 38 v d ps) :
    ∃ (A : Option Addr) (n c : Nat) (L : List Fct), v = .slice A n c ∧ n ≤ 9223372036854775807 ∧ Wk.Sl W A n 8 (L.flatMap Fct.cells) ∧ L.length = n := by
  obtain ⟨A, n, c, rows, rfl, hnc, hcm, _, hlen, hrows, hat⟩ := Mur.open_rows 5 _ Try.underlying38 leafs_facts cFacts (by decide) (Mur.slice_cells Try.underlying38 ⟨_, _, hval⟩) h
  obtain ⟨L, rfl⟩ := Mur.rows_decode Fct.cells rows fun r hr => leaf_fct (hrows r hr)
  refine ⟨A, n, c, L, rfl, by unfold maxLen at hcm; omega, ?_, by simpa using hlen⟩
  rw [List.flatMap_def]
  exact sl_rows hlen (fun r hr => by obtain ⟨f, _, rfl⟩ := List.mem_map.1 hr; rfl) hat
theorem open_ints1 {v : Value} {d : DataW H} {ps : List MemPlace} {r0 : Reach} {b0 : Nat} (hval : Value.okWide Try.prog W r0 b0 42 v) (h : DataW.Trod enc Try.prog W 0 (fun _ => true) true 42 v d ps) :
    ∃ (A : Option Addr) (n c : Nat) (L : List Int), v = .slice A n c ∧ n ≤ 9223372036854775807 ∧ Wk.Sl W A n 1 (L.map fun x => .int .i64 x) := by
  obtain ⟨A, n, c, rows, rfl, hnc, hcm, _, hlen, hrows, hat⟩ := Mur.open_rows 5 _ Try.underlying42 leafs_int cInt (by decide) (Mur.slice_cells Try.underlying42 ⟨_, _, hval⟩) h
  obtain ⟨L, rfl⟩ := Mur.rows_decode (fun x : Int => [Value.int .i64 x]) rows fun r hr => by
    rcases hrows r hr with _ | ⟨h0, hx⟩
    cases hx
    obtain ⟨x, rfl, _⟩ := Mur.leaf_int Try.underlying3 h0
    exact ⟨x, rfl⟩
  refine ⟨A, n, c, L, rfl, by unfold maxLen at hcm; omega, ?_⟩
  have := sl_rows hlen (fun r hr => by obtain ⟨f, _, rfl⟩ := List.mem_map.1 hr; rfl) hat
  rw [← List.flatMap_def] at this
  rw [List.map_eq_flatMap]
  exact this
theorem open_bools {v : Value} {d : DataW H} {ps : List MemPlace} {r0 : Reach} {b0 : Nat} (hval : Value.okWide Try.prog W r0 b0 43 v) (h : DataW.Trod enc Try.prog W 0 (fun _ => true) true 43 v d ps) :
    ∃ (A : Option Addr) (n c : Nat) (L : List Bool), v = .slice A n c ∧ n ≤ 9223372036854775807 ∧ Wk.Sl W A n 1 (L.map fun x => .bool x) := by
  obtain ⟨A, n, c, rows, rfl, hnc, hcm, _, hlen, hrows, hat⟩ := Mur.open_rows 5 _ Try.underlying43 leafs_bool cBool (by decide) (Mur.slice_cells Try.underlying43 ⟨_, _, hval⟩) h
  obtain ⟨L, rfl⟩ := Mur.rows_decode (fun x : Bool => [Value.bool x]) rows fun r hr => by
    rcases hrows r hr with _ | ⟨h0, hx⟩
    cases hx
    obtain ⟨x, rfl⟩ := Mur.leaf_bool Try.underlying4 h0
    exact ⟨x, rfl⟩
  refine ⟨A, n, c, L, rfl, by unfold maxLen at hcm; omega, ?_⟩
  have := sl_rows hlen (fun r hr => by obtain ⟨f, _, rfl⟩ := List.mem_map.1 hr; rfl) hat
  rw [← List.flatMap_def] at this
  rw [List.map_eq_flatMap]
  exact this
end
end Go.Proofs.Ytidhohnhhhooaaa
