/- The builder's contracts, as the laws meet them. -/
import Derived.Test.YtidhohnhhhooaaaBdSim
import Derived.Test.YtidhohnhhhooaaaBdKnown
import Derived.Test.YtidhohnhhhooaaaWkM
namespace Mur
open Go Go.RowKit
theorem Upd.chg {g : Nat} {T : TypeId} {cs : Array Value} {w w' : World} (h : Upd g T cs w w') : Wk.Chg [g] w w' := ⟨h.os, h.tape, h.output, h.size, fun k hk ho => h.block k hk ho.1⟩
def tcells (l : Tls) : List Value := l.flatMap fun p => .int .i64 p.1 :: p.2.cells
theorem tcells_cons (p : Int × Fct) (l : Tls) : tcells (p :: l) = (.int .i64 p.1 :: p.2.cells) ++ tcells l := by simp [tcells]
theorem tcells_append (l m : Tls) : tcells (l ++ m) = tcells l ++ tcells m := by simp [tcells]
theorem tcells_length : ∀ l : Tls, (tcells l).length = l.length * 9
  | [] => rfl
  | p :: l => by rw [tcells_cons, List.length_append, tcells_length l]; simp [Fct.cells]; omega
theorem tcells_get : ∀ (l : Tls) (i : Nat) (x : Int) (f : Fct), l[i]? = some (x, f) → (tcells l)[i * 9]? = some (.int .i64 x) ∧ ∀ j v, f.cells[j]? = some v → (tcells l)[i * 9 + 1 + j]? = some v
  | [], i, x, f, h => by simp at h
  | p :: l, 0, x, f, h => by
    obtain rfl : p = (x, f) := by simpa using h
    rw [tcells_cons]
    refine ⟨rfl, fun j v hj => ?_⟩
    have hl : j < f.cells.length := (List.getElem?_eq_some_iff.1 hj).1
    rw [List.getElem?_append_left (by simp; omega)]
    show (Value.int IntKind.i64 x :: f.cells)[0 * 9 + 1 + j]? = some v
    rw [show 0 * 9 + 1 + j = j + 1 by omega, List.getElem?_cons_succ]
    exact hj
  | p :: l, i + 1, x, f, h => by
    rw [List.getElem?_cons_succ] at h
    obtain ⟨h1, h2⟩ := tcells_get l i x f h
    have hl : (Value.int IntKind.i64 p.1 :: p.2.cells).length = 9 := rfl
    rw [tcells_cons]
    refine ⟨?_, fun j v hj => ?_⟩
    · rw [List.getElem?_append_right (by rw [hl]; omega), hl, show (i + 1) * 9 - 9 = i * 9 by omega]
      exact h1
    · rw [List.getElem?_append_right (by rw [hl]; omega), hl, show (i + 1) * 9 + 1 + j - 9 = i * 9 + 1 + j by omega]
      exact h2 j v hj
theorem sl_tolds {w : World} {A : Option Addr} {n : Nat} {l : Tls} (h : Wk.Sl w A n 9 (tcells l)) (hn : l.length = n) : Tolds w A n l := by
  refine ⟨hn, fun hp => ?_⟩
  obtain ⟨g, off, e, hr⟩ := h.2 (by
    intro hx
    have := tcells_length l
    rw [hx] at this
    simp at this
    omega)
  refine ⟨g, off, e, fun i x f hi => ?_⟩
  obtain ⟨h1, h2⟩ := tcells_get l i x f hi
  refine ⟨hr _ _ h1, fun j v hj => ?_⟩
  have := hr _ _ (h2 j v hj)
  rwa [← Nat.add_assoc, ← Nat.add_assoc] at this
theorem tcells_one (x : Int) (b0 b1 b2 b3 b4 b5 b6 b7 : Bool) : tcells [(x, ⟨b0, b1, b2, b3, b4, b5, b6, b7⟩)] = [.int .i64 x, .bool b0, .bool b1, .bool b2, .bool b3, .bool b4, .bool b5, .bool b6, .bool b7] := rfl
theorem trnTo_succ {hi now most budget : Int} {l : Tls} {k : Nat} {x : Int} {f : Fct} (h : l[k]? = some (x, f)) : trnTo hi now most budget l (k + 1) = ((trnTo hi now most budget l k).Step (tick hi now l (k + 1)) f).1 := by
  rw [trnTo, List.getD_eq_getElem?_getD, h]
  rfl
theorem trnTo_ok {hi now most budget : Int} (h0 : 0 ≤ hi) (hn : 0 ≤ now) {l : Tls} (hm : 0 ≤ most ∧ most ≤ 1000000) (hb : 0 ≤ budget ∧ budget ≤ 1000000) : ∀ k : Nat, now + hi * k ≤ 1000000000 → (trnTo hi now most budget l k).Ok
  | 0, _ => ⟨hm, hb, by simp [trnTo, Trn.new], by simp [trnTo, Trn.new]⟩
  | k + 1, h => by
    have e : hi * ((k + 1 : Nat) : Int) = hi * k + hi := by rw [Int.natCast_add, Int.mul_add]; simp
    have ht := tick_range h0 l (k + 1) (now := now)
    exact (trnTo_ok h0 hn hm hb k (by omega)).Step _ ⟨by omega, by omega⟩ _
end Mur
namespace Go.Proofs.Ytidhohnhhhooaaa
open Go.RowKit
open Mur (Trn Fct Upd Tls refTo toldTo trnTo tick)
theorem New_law (most budget : Int) (w : World) (h1 : 0 ≤ most) (h2 : most ≤ 1000000) (h3 : 0 ≤ budget) (h4 : budget ≤ 1000000) :
    Calls Try.prog 7 #[.int .i64 most, .int .i64 budget] w fun e w' => e = .returned (.pointer (some ⟨w.heap.size, 0, none⟩)) ∧ w'.heap[w.heap.size]? = some (.cells (Trn.new most budget).cells 41 (0, 0)) ∧ Wk.Chg [] w w' ∧ w.heap.size < w'.heap.size :=
  (New_yes most budget w h1 h2 h3 h4).mono fun _ _ ⟨e1, e2⟩ => by
    subst e2
    exact ⟨e1, heap_alloc_new _ _, Wk.Chg.alloc _ _, by simp⟩
theorem Step_told (hi now most budget : Int) (l : Tls) (k : Nat) {x : Int} {f : Fct} (hx : l[k]? = some (x, f)) (g : Nat) (w : World) (hg : w.heap[g]? = some (.cells (trnTo hi now most budget l k).cells 41 (0, 0)))
    (h0 : 0 ≤ hi) (hn : 0 ≤ now) (hm : 0 ≤ most ∧ most ≤ 1000000) (hb : 0 ≤ budget ∧ budget ≤ 1000000) (hk : now + hi * ((k + 1 : Nat) : Int) ≤ 1000000000) :
    Calls Try.prog 10 #[.pointer (some ⟨g, 0, none⟩), .int .i64 (tick hi now l (k + 1)), .agg f.cells.toArray] w
      fun e w' => e = .returned (.int .u8 ((trnTo hi now most budget l k).Step (tick hi now l (k + 1)) f).2) ∧ w'.heap[g]? = some (.cells (trnTo hi now most budget l (k + 1)).cells 41 (0, 0)) ∧ Wk.Chg [g] w w' := by
  have e : hi * ((k + 1 : Nat) : Int) = hi * k + hi := by rw [Int.natCast_add, Int.mul_add]; simp
  have ht := Mur.tick_range h0 l (k + 1) (now := now)
  refine (Step_any (trnTo hi now most budget l k) (tick hi now l (k + 1)) f g w hg (Mur.trnTo_ok h0 hn hm hb k (by omega)) ⟨by omega, by omega⟩).mono ?_
  rintro _ w' ⟨h1, h2⟩
  rw [Mur.trnTo_succ hx]
  exact ⟨h1, h2.self, h2.chg⟩
end Go.Proofs.Ytidhohnhhhooaaa
