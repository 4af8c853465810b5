/- What the reference of the builder answers, in plain Lean; slices of steps in memory. No program in sight. -/
import Derived.Test.YtidhohnhhhooaaaBdPure
namespace Mur
open Go Go.RowKit
structure Ref where
  st : Int
  fetched : Bool
  begin_ : Int
  out : Int
def Ref.look (r : Ref) (first most now : Int) (f : Fct) : Ref :=
  if f.heard = true ∧ r.fetched = false then { r with st := 1, begin_ := now, out := 2 }
  else if f.ready = true ∨ first + most ≤ now then { r with st := 2, out := 3 }
  else if f.lease = true then { r with out := 0 } else { r with out := 1 }
def Ref.next (r : Ref) (first most budget now : Int) (f : Fct) : Ref :=
  if r.st = 3 then r
  else if f.stored = true then { r with st := 3, out := 4 }
  else if r.st = 2 then (if f.ran = true then { r with st := 3, out := 4 } else if f.wrong = true then { r with st := 3, out := 5 } else { r with out := 3 })
  else if r.st = 1 then (if f.failed = false ∧ now < r.begin_ + budget then { r with out := 2 } else ({ r with fetched := true, st := 0 } : Ref).look first most now f)
  else r.look first most now f
abbrev Tls := List (Int × Fct)
def firstOf (l : Tls) : Int := (l.getD 0 (0, ⟨false, false, false, false, false, false, false, false⟩)).1
def refTo (most budget : Int) (l : Tls) : Nat → Ref
  | 0 => ⟨0, false, 0, 0⟩
  | i + 1 => match l[i]? with
    | some (now, f) => (refTo most budget l i).next (firstOf l) most budget now f
    | none => refTo most budget l i
def outsTo (most budget : Int) (l : Tls) (n : Nat) : List Int := (List.range n).map fun j => (refTo most budget l (j + 1)).out
theorem outsTo_length (most budget : Int) (l : Tls) (n : Nat) : (outsTo most budget l n).length = n := by simp [outsTo]
theorem outsTo_succ (most budget : Int) (l : Tls) (n : Nat) : outsTo most budget l (n + 1) = outsTo most budget l n ++ [(refTo most budget l (n + 1)).out] := by
  simp [outsTo, List.range_succ]
theorem outsTo_get (most budget : Int) (l : Tls) (n j : Nat) (h : j < n) : (outsTo most budget l n)[j]? = some (refTo most budget l (j + 1)).out := by
  simp [outsTo, h]
def wants (l : List Int) : List Value := l.map fun x => .int .u8 x
/-- A slice of pairs of a number and facts, read. -/
def Tolds (w : World) (A : Option Addr) (n : Nat) (l : Tls) : Prop :=
  l.length = n ∧ (0 < n → ∃ g off, A = some ⟨g, off, none⟩ ∧ ∀ i x f, l[i]? = some (x, f) → w.cell? ⟨g, off + i * 9, none⟩ = some (.int .i64 x) ∧ ∀ j v, f.cells[j]? = some v → w.cell? ⟨g, off + i * 9 + 1 + j, none⟩ = some v)
theorem Tolds.keep {w w1 : World} {A : Option Addr} {n : Nat} {l : Tls} (h : Tolds w A n l) (hk : ∀ g off, A = some ⟨g, off, none⟩ → ∀ k v, w.cell? ⟨g, k, none⟩ = some v → w1.cell? ⟨g, k, none⟩ = some v) : Tolds w1 A n l :=
  ⟨h.1, fun hn => by
    obtain ⟨g, off, e, hc⟩ := h.2 hn
    exact ⟨g, off, e, fun i x f hi => ⟨hk g off e _ _ (hc i x f hi).1, fun j v hj => hk g off e _ _ ((hc i x f hi).2 j v hj)⟩⟩⟩
theorem Tolds.below {w w1 : World} {A : Option Addr} {n : Nat} {l : Tls} (h : Tolds w A n l) (hb : Below w.heap.size w w1) : Tolds w1 A n l :=
  h.keep fun _ _ _ _ _ hc => (hb.cell (World.block_lt_of_cell? w _ hc)).trans hc
theorem Ref.next_range {r : Ref} (h : 0 ≤ r.begin_ ∧ r.begin_ ≤ 1000000000) {now : Int} (hn : 0 ≤ now ∧ now ≤ 1000000000) (first most budget : Int) (f : Fct) : 0 ≤ (r.next first most budget now f).begin_ ∧ (r.next first most budget now f).begin_ ≤ 1000000000 := by
  unfold Ref.next Ref.look
  (repeat' split) <;> first | exact h | exact hn
theorem refTo_range {most budget : Int} {l : Tls} (hl : ∀ x ∈ l, 0 ≤ x.1 ∧ x.1 ≤ 1000000000) : ∀ i, 0 ≤ (refTo most budget l i).begin_ ∧ (refTo most budget l i).begin_ ≤ 1000000000
  | 0 => by simp [refTo]
  | i + 1 => by
    unfold refTo
    split
    · rename_i now f h
      exact Ref.next_range (refTo_range hl i) (hl _ (List.mem_of_getElem? h)) _ _ _ _
    · exact refTo_range hl i
theorem Ref.next_st {r : Ref} (h : 0 ≤ r.st ∧ r.st ≤ 3) (first most budget now : Int) (f : Fct) : 0 ≤ (r.next first most budget now f).st ∧ (r.next first most budget now f).st ≤ 3 := by
  unfold Ref.next Ref.look
  (repeat' split) <;> first | exact h | (simp; done) | (simp only; omega)
theorem refTo_st {most budget : Int} {l : Tls} : ∀ i, 0 ≤ (refTo most budget l i).st ∧ (refTo most budget l i).st ≤ 3
  | 0 => by simp [refTo]
  | i + 1 => by
    unfold refTo
    split
    · exact Ref.next_st (refTo_st i) _ _ _ _ _
    · exact refTo_st i
end Mur
