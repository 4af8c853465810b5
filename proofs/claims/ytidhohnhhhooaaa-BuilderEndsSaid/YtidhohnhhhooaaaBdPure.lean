/- Turns of a builder, in plain Lean: what a step does to a turn, what the reference answers. No program in sight. -/
import Derived.WalkKit
import Derived.Deep.Draws
namespace Mur
open Go
/-- A turn. -/
structure Trn where
  most : Int
  budget : Int
  state : Int
  begun : Bool
  first : Int
  fetched : Bool
  fetch : Int
  last : Int
structure Fct where
  stored : Bool
  heard : Bool
  lease : Bool
  ready : Bool
  fetched : Bool
  failed : Bool
  ran : Bool
  wrong : Bool
def Fct.cells (f : Fct) : List Value := [.bool f.stored, .bool f.heard, .bool f.lease, .bool f.ready, .bool f.fetched, .bool f.failed, .bool f.ran, .bool f.wrong]
def Trn.cells (t : Trn) : Array Value := #[.int .i64 t.most, .int .i64 t.budget, .int .i64 t.state, .bool t.begun, .int .i64 t.first, .bool t.fetched, .int .i64 t.fetch, .int .u8 t.last]
/-- The second switch. -/
def Trn.look (t : Trn) (now : Int) (f : Fct) : Trn × Int :=
  if f.heard = true ∧ t.fetched = false then ({ t with state := 2, fetch := now }, 2)
  else if f.ready = true ∨ t.first + t.most ≤ now then ({ t with state := 3 }, 3)
  else if f.lease = true then (t, 0) else (t, 1)
/-- The inner step. -/
def Trn.stp (t : Trn) (now : Int) (f : Fct) : Trn × Int :=
  if f.stored = true then ({ t with state := 4 }, 4)
  else if t.state = 3 then (if f.ran = true then ({ t with state := 4 }, 4) else if f.wrong = true then ({ t with state := 4 }, 5) else (t, 3))
  else if t.state = 2 then (if f.failed = false ∧ now < t.fetch + t.budget then (t, 2) else ({ t with fetched := true, state := 1 } : Trn).look now f)
  else t.look now f
def Trn.start (t : Trn) (now : Int) : Trn := if t.begun = true then t else { t with begun := true, first := now }
def Trn.Step (t : Trn) (now : Int) (f : Fct) : Trn × Int :=
  if t.state = 0 then (t, 0)
  else if t.state = 4 then (t.start now, t.last)
  else ({ ((t.start now).stp now f).1 with last := ((t.start now).stp now f).2 }, ((t.start now).stp now f).2)
/-- A turn that is newly made. -/
def Trn.new (most budget : Int) : Trn := ⟨most, budget, 1, false, 0, false, 0, 0⟩
/-- Numbers that do not wrap. -/
structure Trn.Ok (t : Trn) : Prop where
  most : 0 ≤ t.most ∧ t.most ≤ 1000000
  budget : 0 ≤ t.budget ∧ t.budget ≤ 1000000
  first : 0 ≤ t.first ∧ t.first ≤ 1000000000
  fetch : 0 ≤ t.fetch ∧ t.fetch ≤ 1000000000
theorem Trn.Ok.look {t : Trn} (h : t.Ok) (now : Int) (hn : 0 ≤ now ∧ now ≤ 1000000000) (f : Fct) : (t.look now f).1.Ok := by
  unfold Trn.look
  split
  · exact ⟨h.most, h.budget, h.first, hn⟩
  · split
    · exact ⟨h.most, h.budget, h.first, h.fetch⟩
    · split <;> exact h
theorem Trn.Ok.stp {t : Trn} (h : t.Ok) (now : Int) (hn : 0 ≤ now ∧ now ≤ 1000000000) (f : Fct) : (t.stp now f).1.Ok := by
  unfold Trn.stp
  split
  · exact ⟨h.most, h.budget, h.first, h.fetch⟩
  · split
    · split
      · exact ⟨h.most, h.budget, h.first, h.fetch⟩
      · split
        · exact ⟨h.most, h.budget, h.first, h.fetch⟩
        · exact h
    · split
      · split
        · exact h
        · exact Trn.Ok.look (t := { t with fetched := true, state := 1 }) ⟨h.most, h.budget, h.first, h.fetch⟩ now hn f
      · exact h.look now hn f
theorem Trn.Ok.start {t : Trn} (h : t.Ok) (now : Int) (hn : 0 ≤ now ∧ now ≤ 1000000000) : (t.start now).Ok := by
  unfold Trn.start
  split
  · exact h
  · exact ⟨h.most, h.budget, hn, h.fetch⟩
theorem Trn.Ok.Step {t : Trn} (h : t.Ok) (now : Int) (hn : 0 ≤ now ∧ now ≤ 1000000000) (f : Fct) : (t.Step now f).1.Ok := by
  unfold Trn.Step
  split
  · exact h
  · split
    · exact h.start now hn
    · have := (h.start now hn).stp now hn f
      exact ⟨this.most, this.budget, this.first, this.fetch⟩
/-- Only block g has been written, and new ones made: g holds cs now. -/
structure Upd (g : Nat) (T : TypeId) (cs : Array Value) (w w' : World) : Prop where
  os : w'.os = w.os
  tape : w'.tape = w.tape
  output : w'.output = w.output
  size : w.heap.size ≤ w'.heap.size
  block : ∀ k, k < w.heap.size → k ≠ g → w'.heap[k]? = w.heap[k]?
  self : w'.heap[g]? = some (.cells cs T (0, 0))
open Go.RowKit
theorem hpOld {w : World} {k : Nat} {o : Obj} (h : w.heap[k]? = some o) (A : Obj) : (w.alloc A).heap[k]? = some o := by
  rw [Below.heap_alloc w A k (Array.getElem?_eq_some_iff.1 h).1, h]
theorem Upd.refl {g : Nat} {T : TypeId} {cs : Array Value} {w : World} (h : w.heap[g]? = some (.cells cs T (0, 0))) : Upd g T cs w w := ⟨rfl, rfl, rfl, Nat.le_refl _, fun _ _ _ => rfl, h⟩
theorem Upd.lt {g : Nat} {T : TypeId} {cs : Array Value} {w w' : World} (h : Upd g T cs w w') : g < w'.heap.size := (Array.getElem?_eq_some_iff.1 h.self).1
theorem Upd.drew {g : Nat} {T : TypeId} {cs : Array Value} {w w' : World} (h : Upd g T cs w w') : Upd g T cs w w'.drew := ⟨h.os, h.tape, h.output, h.size, h.block, h.self⟩
theorem Upd.drewN {g : Nat} {T : TypeId} {cs : Array Value} {w w' : World} (h : Upd g T cs w w') (n : Nat) : Upd g T cs w (w'.drewN n) := ⟨h.os, h.tape, h.output, h.size, h.block, h.self⟩
theorem Upd.alloc {g : Nat} {T : TypeId} {cs : Array Value} {w w' : World} (h : Upd g T cs w w') (o : Obj) : Upd g T cs w (w'.alloc o) :=
  ⟨h.os, h.tape, h.output, by have := h.size; simp; omega, fun k hk hg => by rw [Below.heap_alloc _ _ _ (by have := h.size; omega)]; exact h.block k hk hg, by rw [Below.heap_alloc _ _ _ h.lt]; exact h.self⟩
theorem Upd.set {g : Nat} {T : TypeId} {cs : Array Value} {w w' : World} (h : Upd g T cs w w') (i : Nat) (v : Value) : Upd g T (cs.setIfInBounds i v) w (w'.setCell ⟨g, i, none⟩ v) :=
  ⟨h.os, h.tape, h.output, by have := h.size; simp [World.setCell]; omega, fun k hk hg => by rw [Below.heap_setCell _ _ _ _ hg]; exact h.block k hk hg, by
    simp only [World.setCell, Array.getElem?_modify, if_pos, h.self]
    rfl⟩
theorem Upd.fin {g : Nat} {T : TypeId} {cs cs' : Array Value} {w w' : World} (h : Upd g T cs w w') (e : cs = cs') : Upd g T cs' w w' := e ▸ h
theorem Upd.trans {g : Nat} {T : TypeId} {cs cs' : Array Value} {w w' w2 : World} (h : Upd g T cs w w') (k : Upd g T cs' w' w2) : Upd g T cs' w w2 :=
  ⟨k.os.trans h.os, k.tape.trans h.tape, k.output.trans h.output, Nat.le_trans h.size k.size, fun i hi hg => (k.block i (Nat.lt_of_lt_of_le hi h.size) hg).trans (h.block i hi hg), k.self⟩
theorem Upd.below {g : Nat} {T : TypeId} {cs : Array Value} {w w' : World} {B : Nat} (h : Upd g T cs w w') (hB : B ≤ g) (hs : B ≤ w.heap.size) : Below B w w' :=
  ⟨h.os, h.tape, h.output, h.size, fun k hk => h.block k (by omega) (by omega)⟩
theorem Upd.belowS {g : Nat} {T : TypeId} {cs : Array Value} {w w' w2 : World} (h : Upd g T cs w w') (k : Below w'.heap.size w' w2) : Upd g T cs w w2 :=
  ⟨k.os.trans h.os, k.tape.trans h.tape, k.output.trans h.output, Nat.le_trans h.size k.size, fun i hi hg => (k.block i (Nat.lt_of_lt_of_le hi h.size)).trans (h.block i hi hg), (k.block g h.lt).trans h.self⟩
end Mur
