/- Blocks of memory: what a block holds behind new blocks, stores and draws; rows of words and bytes. No program in sight. -/
import Derived.Test.YtddabjlhidokaaaU32
import Derived.WalkKit
import Derived.Lib.Hide
import Derived.Deep.Draws
namespace Mur
open Go Go.RowKit
theorem hp_a1 (w : World) (A : Obj) : (w.alloc A).heap[w.heap.size]? = some A := heap_alloc_new w A
theorem hp_old {w : World} {k : Nat} {o : Obj} (h : w.heap[k]? = some o) (A : Obj) : (w.alloc A).heap[k]? = some o := by
  rw [Below.heap_alloc w A k (Array.getElem?_eq_some_iff.1 h).1, h]
theorem hp_a2 (w : World) (A B : Obj) : ((w.alloc A).alloc B).heap[w.heap.size + 1]? = some B := heap_alloc2_new w A B
theorem hp_a3 (w : World) (A B C : Obj) : (((w.alloc A).alloc B).alloc C).heap[w.heap.size + 1 + 1]? = some C := by
  have h := heap_alloc2_new (w.alloc A) B C
  rwa [World.size_alloc] at h
theorem hp_lt {w : World} {b : Nat} {o : Obj} (h : w.heap[b]? = some o) : b < w.heap.size := (Array.getElem?_eq_some_iff.1 h).1
theorem hp_set_ne {w : World} {k : Nat} {o : Obj} (h : w.heap[k]? = some o) (g i : Nat) (v : Value) (hk : k ≠ g) : (w.setCell ⟨g, i, none⟩ v).heap[k]? = some o := by
  rw [heap_setCell_other w _ k v hk, h]
theorem hp_drewN {w : World} {k : Nat} {o : Obj} (h : w.heap[k]? = some o) (n : Nat) : (w.drewN n).heap[k]? = some o := h
theorem hp_drew {w : World} {k : Nat} {o : Obj} (h : w.heap[k]? = some o) : w.drew.heap[k]? = some o := h
theorem below_drewN {B : Nat} {w W : World} (h : Below B w W) (n : Nat) : Below B w (W.drewN n) := ⟨h.os, h.tape, h.output, h.size, h.block⟩
theorem cell_below {w w1 : World} (h : Below w.heap.size w w1) {a : Addr} {v : Value} (hc : w.cell? a = some v) : w1.cell? a = some v := (h.cell (World.block_lt_of_cell? w a hc)).trans hc
theorem hp_below {w w1 : World} (h : Below w.heap.size w w1) {k : Nat} {o : Obj} (hc : w.heap[k]? = some o) : w1.heap[k]? = some o := (h.block k (hp_lt hc)).trans hc
theorem below_then {B : Nat} {w w1 w2 : World} (h : Below B w w1) (hB : B ≤ w1.heap.size) (k : Below w1.heap.size w1 w2) : Below B w w2 :=
  h.trans (k.mono hB)

/-- A row of words. -/
def u32s (l : List UInt32) : Array Value := (l.map fun x => Value.int .u32 (w32 x)).toArray
theorem cell_u32s {w : World} {g t i : Nat} {fr : Nat × Nat} {l : List UInt32} (h : w.heap[g]? = some (.cells (u32s l) t fr)) (hi : i < l.length) : w.cell? ⟨g, i, none⟩ = some (.int .u32 (w32 (l.getD i 0))) := by
  rw [cell_of_row w g i _ t _ h]
  simp [u32s, List.getD_eq_getElem?_getD, hi]
theorem free_row {w : World} {g t i : Nat} {l : Array Value} (h : w.heap[g]? = some (.cells l t (0, 0))) : w.frozen? ⟨g, i, none⟩ = false := frozen_of_row w g i _ t h
theorem set_u32s {w : World} {g t i : Nat} {l : List UInt32} (h : w.heap[g]? = some (.cells (u32s l) t (0, 0))) (x : UInt32) : (w.setCell ⟨g, i, none⟩ (.int .u32 (w32 x))).heap[g]? = some (.cells (u32s (l.set i x)) t (0, 0)) := by
  rw [heap_setCell_same w g i _ t _ h]
  simp [u32s, List.map_set]
theorem oneCells (l : List UInt32) : (u32s l).all (·.oneCell') = true := by
  simp [u32s, Value.oneCell']
end Mur
