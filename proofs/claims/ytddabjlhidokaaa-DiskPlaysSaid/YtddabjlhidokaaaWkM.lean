/- Steps on memory: what a change leaves alone; loads, stores, indices, new blocks, appends. No program in sight. -/
import Derived.Test.YtddabjlhidokaaaWk
import Derived.Maps.AppendAt
import Derived.OwnWalk
import Derived.Laws.CopyOwn
import Derived.Laws.MakeOwn
import Derived.Deep.AppendLies
namespace Wk
open Go Go.RowKit
/-- A number that is none of some. -/
def Off (k : Nat) : List Nat → Prop
  | [] => True
  | s :: S => k ≠ s ∧ Off k S
theorem Off.append {k : Nat} : ∀ {S T : List Nat}, Off k (S ++ T) → Off k S ∧ Off k T
  | [], _, h => ⟨trivial, h⟩
  | _ :: _, _, h => let ⟨a, b⟩ := Off.append h.2; ⟨⟨h.1, a⟩, b⟩
theorem Off.of_lt {k B : Nat} (hk : k < B) : ∀ {S : List Nat}, (∀ s ∈ S, B ≤ s) → Off k S
  | [], _ => trivial
  | s :: _, h => ⟨by have := h s (by simp); omega, Off.of_lt hk fun x hx => h x (by simp [hx])⟩
theorem Off.mem {k : Nat} : ∀ {S : List Nat}, Off k S → ∀ s ∈ S, k ≠ s
  | _ :: _, h, s, hs => by
    rcases List.mem_cons.1 hs with rfl | hs
    · exact h.1
    · exact h.2.mem s hs
/-- Of what was there only the blocks S may have been written. -/
structure Chg (S : List Nat) (w w' : World) : Prop where
  os : w'.os = w.os
  tape : w'.tape = w.tape
  output : w'.output = w.output
  size : w.heap.size ≤ w'.heap.size
  block : ∀ k, k < w.heap.size → Off k S → w'.heap[k]? = w.heap[k]?
theorem Chg.refl (w : World) : Chg [] w w := ⟨rfl, rfl, rfl, Nat.le_refl _, fun _ _ _ => rfl⟩
theorem Chg.trans {S T : List Nat} {a b c : World} (h : Chg S a b) (k : Chg T b c) : Chg (S ++ T) a c :=
  ⟨k.os.trans h.os, k.tape.trans h.tape, k.output.trans h.output, Nat.le_trans h.size k.size, fun i hi ho => (k.block i (Nat.lt_of_lt_of_le hi h.size) ho.append.2).trans (h.block i hi ho.append.1)⟩
theorem Chg.more {S T : List Nat} {a b : World} (h : Chg S a b) (hs : ∀ s ∈ S, s ∈ T) : Chg T a b :=
  ⟨h.os, h.tape, h.output, h.size, fun i hi ho => h.block i hi (by
    clear h
    induction S with
    | nil => trivial
    | cons s S ih => exact ⟨ho.mem s (hs s (by simp)), ih fun x hx => hs x (by simp [hx])⟩)⟩
theorem Chg.drewN (w : World) (n : Nat) : Chg [] w (w.drewN n) := ⟨rfl, rfl, rfl, Nat.le_refl _, fun _ _ _ => rfl⟩
theorem Chg.drew (w : World) : Chg [] w w.drew := ⟨rfl, rfl, rfl, Nat.le_refl _, fun _ _ _ => rfl⟩
theorem Chg.alloc (w : World) (o : Obj) : Chg [] w (w.alloc o) := ⟨rfl, rfl, rfl, by simp, fun k hk _ => Below.heap_alloc w o k hk⟩
theorem Chg.ofBelow {w w' : World} (h : Below w.heap.size w w') : Chg [] w w' := ⟨h.os, h.tape, h.output, h.size, fun k hk _ => h.block k hk⟩
theorem Chg.below {S : List Nat} {w w' : World} {B : Nat} (h : Chg S w w') (hB : B ≤ w.heap.size) (hs : ∀ s ∈ S, B ≤ s) : Below B w w' :=
  ⟨h.os, h.tape, h.output, h.size, fun k hk => h.block k (by omega) (Off.of_lt hk hs)⟩
theorem Chg.below0 {w w' : World} (h : Chg [] w w') : Below w.heap.size w w' := h.below (Nat.le_refl _) (by simp)
theorem Chg.grown {w w' : World} {row : Option Nat} (h : w.grownBy w' row) {S : List Nat} (hS : ∀ k, row = some k → k ∈ S) : Chg S w w' :=
  ⟨h.os, h.tape, h.output, h.size, fun k hk ho => h.block k hk (fun e => ho.mem k (hS k e.symm) rfl)⟩
theorem Chg.hp {S : List Nat} {w w' : World} (h : Chg S w w') {k : Nat} {o : Obj} (hk : w.heap[k]? = some o) (ho : Off k S) : w'.heap[k]? = some o := (h.block k (Array.getElem?_eq_some_iff.1 hk).1 ho).trans hk
theorem Chg.cell {S : List Nat} {w w' : World} (h : Chg S w w') {g o : Nat} {v : Value} (hc : w.cell? ⟨g, o, none⟩ = some v) (ho : Off g S) : w'.cell? ⟨g, o, none⟩ = some v :=
  (World.cell?_of_block (w := w) (a := ⟨g, o, none⟩) (h.block g (World.block_lt_of_cell? w ⟨g, o, none⟩ hc) ho)).trans hc
theorem Chg.range {S : List Nat} {w w' : World} (h : Chg S w w') {g o : Nat} {cs : List Value} (hr : w.rangeAt g o cs) (ho : Off g S) : w'.rangeAt g o cs := fun j v hv => h.cell (hr j v hv) ho
/-- Each of T is one of S, or at least B. -/
def NewOr (B : Nat) (S : List Nat) : List Nat → Prop
  | [] => True
  | t :: T => (t ∈ S ∨ B ≤ t) ∧ NewOr B S T
theorem Off.newOr {B k : Nat} (hk : k < B) {S : List Nat} (h : Off k S) : ∀ {T : List Nat}, NewOr B S T → Off k T
  | [], _ => trivial
  | t :: _, ⟨h1, h2⟩ => ⟨by
      rcases h1 with h1 | h1
      · exact h.mem t h1
      · omega, Off.newOr hk h h2⟩
/-- A change, and one more of the same blocks or of new ones. -/
theorem Chg.step {S T : List Nat} {a b c : World} (h : Chg S a b) (k : Chg T b c) (ht : NewOr a.heap.size S T) : Chg S a c :=
  ⟨k.os.trans h.os, k.tape.trans h.tape, k.output.trans h.output, Nat.le_trans h.size k.size, fun i hi ho => (k.block i (Nat.lt_of_lt_of_le hi h.size) (ho.newOr hi ht)).trans (h.block i hi ho)⟩
/-- The blocks that an append may write. -/
def blk (v : Value) : List Nat := match v.ownBlock with
  | some g => [g]
  | none => []
theorem mem_blk {v : Value} {k : Nat} (h : v.ownBlock = some k) : k ∈ blk v := by simp [blk, h]
theorem off_blk {v : Value} {k : Nat} (h : ∀ g, v.ownBlock = some g → k ≠ g) : Off k (blk v) := by
  unfold blk
  split
  · rename_i g hg
    exact ⟨h g hg, trivial⟩
  · trivial
theorem newOr_blk {B : Nat} {S : List Nat} {v : Value} (h : ∀ g, v.ownBlock = some g → B ≤ g) : NewOr B S (blk v) := by
  unfold blk
  split
  · rename_i g hg
    exact ⟨.inr (h g hg), trivial⟩
  · trivial
theorem range_row {w : World} {g : Nat} {cs : Array Value} {t : TypeId} {fr : Nat × Nat} (h : w.heap[g]? = some (.cells cs t fr)) : w.rangeAt g 0 cs.toList := fun j v hv => by
  rw [Nat.zero_add, cell_of_row w g j cs t fr h]
  simpa using hv
theorem range_sub {w : World} {g : Nat} {cs : Array Value} {t : TypeId} {fr : Nat × Nat} (o : Nat) (sub : List Value) (h : w.heap[g]? = some (.cells cs t fr)) (e : (cs.toList.drop o).take sub.length = sub) : w.rangeAt g o sub := fun j v hv => by
  rw [cell_of_row w g (o + j) cs t fr h]
  have hj := (List.getElem?_eq_some_iff.1 hv).1
  rw [← e, List.getElem?_take, if_pos (by omega), List.getElem?_drop] at hv
  simpa using hv
theorem new_ex {P : Program} {w : World} {s : Sem Next} (v : Value) (cs : Array Value) (t : TypeId) (h : s.run P w = .ok (.value v) (w.alloc (.cells cs t))) :
    ∃ v1 w1, s.run P w = .ok (.value v1) w1 ∧ v1 = v ∧ w1.heap[w.heap.size]? = some (.cells cs t (0, 0)) ∧ Chg [] w w1 ∧ w.heap.size < w1.heap.size :=
  ⟨v, _, h, rfl, heap_alloc_new w _, Chg.alloc w _, by simp⟩
/-- A region that draws its order, its world named anew. -/
theorem dReg {P : Program} {id : Nat} {ops : Array Oper} {Q : Exit → Act → World → Prop} {a : Act} {w : World} (S : List Nat) (hm : P.follows .mixedOrders = true)
    (h : ∀ w1, Chg [] w w1 → w1.heap.size = w.heap.size → wpAnyH P .any ops Q (fun w' => Chg S w1 w') ops.size (Array.replicate ops.size false) a w1) : (Code.region id ops true).wp P Q a w :=
  wp_region_held (S := fun w' => Chg S w.drew w') hm (h w.drew (Chg.drew w) rfl)
/-- A slice of n things of sz cells each, read. -/
def Sl (w : World) (A : Option Addr) (n sz : Nat) (cs : List Value) : Prop := cs.length = n * sz ∧ (cs ≠ [] → ∃ g off, A = some ⟨g, off, none⟩ ∧ w.rangeAt g off cs)
theorem Sl.nil (w : World) (A : Option Addr) (sz : Nat) : Sl w A 0 sz [] := ⟨by simp, fun h => absurd rfl h⟩
theorem Sl.chg {S : List Nat} {w w' : World} {A : Option Addr} {n sz : Nat} {cs : List Value} (h : Sl w A n sz cs) (c : Chg S w w') (ho : ∀ g off, A = some ⟨g, off, none⟩ → g < w.heap.size → Off g S) : Sl w' A n sz cs :=
  ⟨h.1, fun hn => by
    obtain ⟨g, off, e, hr⟩ := h.2 hn
    have hlt : g < w.heap.size := by
      rcases cs with _ | ⟨v, cs⟩
      · exact absurd rfl hn
      · exact World.block_lt_of_cell? w ⟨g, off + 0, none⟩ (hr 0 v rfl)
    exact ⟨g, off, e, c.range hr (ho g off e hlt)⟩⟩
theorem Sl.below {w w' : World} {A : Option Addr} {n sz : Nat} {cs : List Value} (h : Sl w A n sz cs) (b : Below w.heap.size w w') : Sl w' A n sz cs := h.chg (Chg.ofBelow b) fun _ _ _ _ => trivial
/-- A block of one's own, as a slice. -/
theorem sl_blk {w : World} {g : Nat} {cs : Array Value} {t : TypeId} {fr : Nat × Nat} (n sz : Nat) (h : w.heap[g]? = some (.cells cs t fr)) (hn : cs.toList.length = n * sz) : Sl w (some ⟨g, 0, none⟩) n sz cs.toList := ⟨hn, fun _ => ⟨g, 0, rfl, range_row h⟩⟩
theorem Sl.cell {w : World} {g off n sz : Nat} {cs : List Value} (h : Sl w (some ⟨g, off, none⟩) n sz cs) {j : Nat} {v : Value} (hv : cs[j]? = some v) : w.cell? ⟨g, off + j, none⟩ = some v := by
  obtain ⟨g', off', e, hr⟩ := h.2 (by rintro rfl; simp at hv)
  injection e with e
  injection e with e1 e2
  subst e1 e2
  exact hr j v hv
section runs
variable {P : Program} {a : Act} {o : Oper} {w : World}
theorem index_sl (t e : TypeId) (x y : Operand) (ho : o.op = .indexAddr t x y) (ht : P.underlying t = some (.slice e)) (sz : Nat) (hsz : (P.info? e).map (·.size) = some sz) (g off n c i : Nat) (k : IntKind) (hx : a.eval x = .slice (some ⟨g, off, none⟩) n c)
    (hy : a.eval y = .int k (i : Int)) (hlt : i < n) : (execOp a.eval o).run P w = .ok (.value (.pointer (some ⟨g, off + i * sz, none⟩))) w := by
  obtain ⟨inf, hi, hs⟩ := Option.map_eq_some_iff.1 hsz
  unfold execOp
  simp only [ho, hx, hy]
  have h1 : (0 : Int) ≤ (i : Int) ∧ (i : Int) < (n : Int) := by omega
  simp [Instr.indexAt, asIntOf, run_underlying ht, Go.sizeOf, typeInfo, hi, hs, hlt, Addr.add_mid]
theorem index_arr (t e : TypeId) (x y : Operand) (ho : o.op = .indexAddr t x y) (n : Nat) (ht : P.underlying t = some (.array n e)) (sz : Nat) (hsz : (P.info? e).map (·.size) = some sz) (g off i : Nat) (k : IntKind) (hx : a.eval x = .pointer (some ⟨g, off, none⟩))
    (hy : a.eval y = .int k (i : Int)) (hlt : i < n) : (execOp a.eval o).run P w = .ok (.value (.pointer (some ⟨g, off + i * sz, none⟩))) w := by
  obtain ⟨inf, hi, hs⟩ := Option.map_eq_some_iff.1 hsz
  unfold execOp
  simp only [ho, hx, hy]
  simp [Instr.indexAt, asIntOf, Instr.sureAddr, run_underlying ht, Go.sizeOf, typeInfo, hi, hs, hlt, Addr.add_mid]
/-- A load of one cell. -/
theorem load1 (ty : TypeId) (x : Operand) (ho : o.op = .load ty x) (hu : (match P.underlying ty with | some (.struct _) | some (.array _ _) | none => false | _ => true) = true) (ad : Addr) (hx : a.eval x = .pointer (some ad)) (v : Value) (hc : w.cell? ad = some v) :
    (execOp a.eval o).run P w = .ok (.value v) w := by
  unfold execOp
  simp only [ho, hx, Instr.loadAt, Instr.sureAddr, Sem.run_bind, Sem.run_pure, Result.andThen_ok, loadVar]
  have hb : (isAgg ty).run P w = .ok false w := by
    unfold isAgg
    cases h : P.underlying ty with
    | none => rw [h] at hu; cases hu
    | some d =>
      rw [h] at hu
      simp only [Sem.run_bind, run_underlying h, Result.andThen_ok]
      cases d <;> first | rfl | cases hu
  simp only [hb, Result.andThen_ok, Bool.false_eq_true, if_false]
  simp [load, Sem.run, hc]
/-- A load of a row in the midst of a block. -/
theorem loadR (ty : TypeId) (x : Operand) (ho : o.op = .load ty x) (d : TypeDesc) (hu : P.underlying ty = some d) (hd : d.isRow = true) (g off : Nat) (hx : a.eval x = .pointer (some ⟨g, off, none⟩)) (cs : List Value)
    (hi : (P.info? ty).map (·.size) = some cs.length) (hc : w.rangeAt g off cs) : (execOp a.eval o).run P w = .ok (.value (.agg cs.toArray)) w := by
  unfold execOp
  simp only [ho, hx, Sem.run_bind, run_loadAt_mid w g off ty cs d hc hu hd hi, Result.andThen_ok, Sem.run_pure]
/-- A store of one cell into a block of one's own. -/
theorem store1 (ty : TypeId) (x y : Operand) (ho : o.op = .store ty x y) (hi : (P.info? ty).map (·.size) = some 1) (g off : Nat) (hx : a.eval x = .pointer (some ⟨g, off, none⟩)) (v : Value) (hy : a.eval y = v) (h1 : v.oneCell' = true)
    (t : TypeId) (cs : Array Value) (hg : w.heap[g]? = some (.cells cs t (0, 0))) (hlt : off < cs.size) :
    ∃ w', (execOp a.eval o).run P w = .ok .skip w' ∧ w'.heap[g]? = some (.cells (cs.setIfInBounds off v) t (0, 0)) ∧ Chg [g] w w' := by
  refine ⟨w.setCell ⟨g, off, none⟩ v, ?_, heap_setCell_same w g off cs t v hg, ⟨rfl, rfl, rfl, by simp [World.setCell], fun k _ hk => Below.heap_setCell _ _ _ _ hk.1⟩⟩
  obtain ⟨inf, hinf, hs⟩ := Option.map_eq_some_iff.1 hi
  have hc : w.cell? ⟨g, off, none⟩ = some cs[off] := by rw [cell_of_row w g off cs t _ hg, Array.getElem?_eq_getElem hlt]
  have hz : w.frozen? ⟨g, off, none⟩ = false := frozen_of_row w g off cs t hg
  have hcells : v.cells = #[v] := by cases v <;> first | rfl | cases h1
  have hsz : (Go.sizeOf ty).run P w = .ok 1 w := by simp [Go.sizeOf, typeInfo, hinf, hs]
  have hst : (storeVar ty ⟨g, off, none⟩ v).run P w = .ok () (w.setCell ⟨g, off, none⟩ v) := by
    unfold storeVar
    rw [hcells]
    simp only [Sem.run_bind, hsz, Result.andThen_ok]
    rw [if_neg (by simp)]
    have := run_storeCells_cells (P := P) g off [v] 0 w (fun j hj => by obtain rfl : j = 0 := by simpa using hj
                                                                        simp [hc]) (fun j hj => by obtain rfl : j = 0 := by simpa using hj
                                                                                                   simpa using hz) (by simpa using h1)
    simpa [World.setCells] using this
  unfold execOp
  simp only [ho, hx, hy, Instr.storeAt, Instr.sureAddr, Sem.run_bind, Sem.run_pure, Result.andThen_ok, hst]
theorem setCells_chg (g : Nat) : ∀ (vs : List Value) (o : Nat) (w : World), Chg [g] w (w.setCells g o vs)
  | [], _, w => (Chg.refl w).more (by simp)
  | v :: vs, o, w => by
    have h1 : Chg [g] w (w.setCell ⟨g, o, none⟩ v) := ⟨rfl, rfl, rfl, by simp [World.setCell], fun k _ hk => Below.heap_setCell _ _ _ _ hk.1⟩
    exact (h1.trans (setCells_chg g vs (o + 1) _)).more (by simp)
theorem splice_set {α : Type} (cs : List α) (o : Nat) (v : α) (r : List α) (h : o < cs.length) : splice (cs.set o v) (o + 1) r = splice cs o (v :: r) := by
  unfold splice
  rw [List.take_set, List.take_succ_eq_append_getElem (by omega), List.drop_set_of_lt (by omega)]
  simp only [List.length_cons, List.cons_append]
  rw [List.set_append_right _ _ (by simp only [List.length_take]; omega)]
  simp only [List.length_take, Nat.min_eq_left (Nat.le_of_lt h), Nat.sub_self, List.set_cons_zero, List.append_assoc, List.cons_append, List.nil_append]
  rw [show o + 1 + r.length = o + (r.length + 1) by omega]
theorem heap_setCells (g : Nat) (t : TypeId) : ∀ (vs : List Value) (o : Nat) (w : World) (cs : List Value), w.heap[g]? = some (.cells cs.toArray t (0, 0)) → o + vs.length ≤ cs.length → (w.setCells g o vs).heap[g]? = some (.cells (splice cs o vs).toArray t (0, 0))
  | [], o, w, cs, h, hl => by
    have : splice cs o [] = cs := by simp [splice]
    rw [this]
    exact h
  | v :: vs, o, w, cs, h, hl => by
    simp only [List.length_cons] at hl
    have h1 := heap_setCell_same w g o cs.toArray t v h
    rw [List.setIfInBounds_toArray] at h1
    have h2 := heap_setCells g t vs (o + 1) (w.setCell ⟨g, o, none⟩ v) (cs.set o v) h1 (by simp; omega)
    rw [splice_set cs o v vs (by omega)] at h2
    exact h2
/-- A store of a row into a block of one's own. -/
theorem storeR (ty : TypeId) (x y : Operand) (ho : o.op = .store ty x y) (g off : Nat) (hx : a.eval x = .pointer (some ⟨g, off, none⟩)) (vs : List Value) (hy : a.eval y = .agg vs.toArray) (hi : (P.info? ty).map (·.size) = some vs.length) (h1 : ∀ v ∈ vs, v.oneCell' = true)
    (t : TypeId) (cs : List Value) (hg : w.heap[g]? = some (.cells cs.toArray t (0, 0))) (hlt : off + vs.length ≤ cs.length) :
    ∃ w', (execOp a.eval o).run P w = .ok .skip w' ∧ w'.heap[g]? = some (.cells (splice cs off vs).toArray t (0, 0)) ∧ Chg [g] w w' := by
  have hth : w.there g off vs.length := fun j hj => by
    refine ⟨?_, frozen_of_row w g _ _ t hg⟩
    rw [cell_of_row w g (off + j) _ t _ hg]
    simp only [List.getElem?_toArray]
    rw [List.getElem?_eq_getElem (by omega)]
    rfl
  refine ⟨w.setCells g off vs, ?_, ?_, ?_⟩
  · unfold execOp
    simp only [ho, hx, hy, Sem.run_bind, run_storeAt_mid w g off ty vs.toArray (by simpa using hth) (by simpa using hi) (all_oneCell_toArray h1), Result.andThen_ok, Sem.run_pure]
  · exact heap_setCells g t vs off w cs hg hlt
  · exact setCells_chg g vs off w
/-- append(v, xs...): v the call's own, xs what is read. -/
theorem append_run (s x : Operand) (t e : TypeId) (ho : o.op = .call { callee := .builtin .append, args := #[s, x], argTypes := #[t, t] }) (ht : P.underlying t = some (.slice e)) (z : Value) (sz bytes : Nat)
    (hinfo : (P.info? e).map (fun i => (i.zero, i.size, i.bytes)) = some (some z, sz, bytes)) (hz : z.cells.size = sz) (hsz : 0 < sz) (base : Nat) (v : Value) (n : Nat) (xs : List Value) (A : Option Addr) (m c : Nat) (ys : List Value) (hs : a.eval s = v) (hx : a.eval x = .slice A m c)
    (HO : w.ownsRow base e sz v n xs) (HR : Sl w A m sz ys) (hA : A = none → c = 0) (h1 : ∀ u ∈ ys, u.oneCell' = true) (hbase : base ≤ w.heap.size) (h63 : n + m ≤ maxLen) (hl : (n + m) * bytes ≤ 140737488355328) :
    ∃ v1 w1, (execOp a.eval o).run P w = .ok (.value v1) w1 ∧ w1.ownsRow base e sz v1 (n + m) (xs ++ ys) ∧ Chg (blk v) w w1 ∧ (v1.ownBlock = v.ownBlock ∨ v1.ownBlock = some w.heap.size) := by
  obtain ⟨i0, hi, hzz⟩ := Option.map_eq_some_iff.1 hinfo
  simp only [Prod.mk.injEq] at hzz
  obtain ⟨hz0, hz1, hz2⟩ := hzz
  have key : ∃ v1 w1, (Builtin.append_ #[t, t] o.type #[v, .slice A m c]).run P w = .ok v1 w1 ∧ w1.ownsRow base e sz v1 (n + m) (xs ++ ys) ∧ Chg (blk v) w w1 ∧ (v1.ownBlock = v.ownBlock ∨ v1.ownBlock = some w.heap.size) := by
    rcases A with _ | ad
    · have h0 : ys = [] := by
        rcases ys with _ | ⟨y, ys⟩
        · rfl
        · obtain ⟨g, off, h, _⟩ := HR.2 (by simp)
          cases h
      subst h0
      have hm : m = 0 := by
        have := HR.1
        simp only [List.length_nil] at this
        rcases Nat.eq_zero_or_pos m with h | h
        · exact h
        · have := Nat.mul_pos h hsz
          omega
      subst hm
      obtain rfl := hA rfl
      refine ⟨v, w, ?_, by simpa using HO, (Chg.refl w).more (by simp), .inl rfl⟩
      exact run_append_owned_none (P := P) (w := w) base t o.type e i0 sz ht hi v n xs HO
    · have hcells : ∀ j u, ys[j]? = some u → w.cell? (ad.add j) = some u := by
        intro j u hu
        obtain ⟨g, off, h', hc⟩ := HR.2 (by rintro rfl; simp at hu)
        injection h' with h'
        subst h'
        rw [Addr.add_mid]
        exact hc j u hu
      obtain ⟨v1, w1, hr, h2, h3, _, h5⟩ := run_append_own_at (P := P) w base t o.type e i0 z sz bytes ht hi hz0 hz1 hz2 hz hsz v n xs HO ad m c ys HR.1 hcells h1 h63 hl hbase
      exact ⟨v1, w1, hr, h2, Chg.grown h3 fun k hk => mem_blk hk, h5⟩
  obtain ⟨v1, w1, hr, h2, h3, h5⟩ := key
  refine ⟨v1, w1, ?_, h2, h3, h5⟩
  unfold execOp
  simp only [ho, resolve, invoke, builtin, Sem.run_bind, Sem.run_pure, Result.andThen_ok, List.map_toArray, List.map_cons, List.map_nil, hs, hx, hr]
end runs
theorem own_chg {w w' : World} {base : Nat} {e : TypeId} {sz : Nat} {v : Value} {n : Nat} {xs : List Value} {S : List Nat} (h : w.ownsRow base e sz v n xs) (c : Chg S w w') (ho : ∀ g, v.ownBlock = some g → base ≤ g → g < w.heap.size → Off g S) : w'.ownsRow base e sz v n xs := by
  obtain ⟨h1, h2⟩ := h
  refine ⟨h1, ?_⟩
  rcases h2 with h2 | ⟨g, cap, cur, hv, hg, hh, r⟩
  · exact .inl h2
  · exact .inr ⟨g, cap, cur, hv, hg, c.hp hh (ho g (by rw [hv]; rfl) hg (Array.getElem?_eq_some_iff.1 hh).1), r⟩
theorem own_sl {w : World} {base : Nat} {e : TypeId} {sz : Nat} {v : Value} {n : Nat} {xs : List Value} (h : w.ownsRow base e sz v n xs) : ∃ A c, v = .slice A n c ∧ n ≤ c ∧ c ≤ maxLen ∧ (A = none → c = 0) ∧ Sl w A n sz xs ∧ ∀ g off, A = some ⟨g, off, none⟩ → base ≤ g ∧ g < w.heap.size := by
  obtain ⟨h1, h2⟩ := h
  rcases h2 with ⟨rfl, rfl⟩ | ⟨g, cap, cur, rfl, hb, hg, hnc, hcm, hcs, ht⟩
  · obtain rfl : xs = [] := List.eq_nil_of_length_eq_zero (by simpa using h1)
    exact ⟨none, 0, rfl, Nat.le_refl _, by unfold maxLen; omega, fun _ => rfl, Sl.nil _ _ _, fun g off h => by cases h⟩
  · refine ⟨_, cap, rfl, hnc, hcm, (fun h => by cases h), ⟨h1, fun _ => ⟨g, 0, rfl, fun j u hu => ?_⟩⟩, fun g' off h => ?_⟩
    · rw [Nat.zero_add, cell_of_row w g j cur e _ hg, ← ht] at *
      rw [List.getElem?_take] at hu
      split at hu
      · rw [← hu, Array.getElem?_toList]
      · cases hu
    · injection h with h
      injection h with h1 h2
      subst h1
      exact ⟨hb, (Array.getElem?_eq_some_iff.1 hg).1⟩
theorem own_some {w : World} {base : Nat} {e : TypeId} {sz : Nat} {A : Option Addr} {c n : Nat} {xs : List Value} (h : w.ownsRow base e sz (.slice A n c) n xs) (hn : 0 < n) : ∃ g, A = some ⟨g, 0, none⟩ ∧ Sl w (some ⟨g, 0, none⟩) n sz xs := by
  obtain ⟨A', c', e1, _, _, _, hs, _⟩ := own_sl h
  injection e1 with e1 e2 e3
  subst e1
  rcases h.2 with ⟨h1, h2⟩ | ⟨g, cap, cur, h1, _⟩
  · omega
  · injection h1 with h1
    subst h1
    exact ⟨g, rfl, hs⟩
end Wk
namespace Wk
open Go Go.RowKit
/-- A remainder of two natural numbers. -/
theorem rem_nat {P : Program} {w : World} {a : Act} {o : Oper} (t ty : TypeId) (x y : Operand) (ho : o.op = .binOp .rem t x y ty) (i n : Nat) (hx : a.eval x = .int .i64 (i : Int)) (hy : a.eval y = .int .i64 (n : Int)) (hn : 0 < n) :
    (execOp a.eval o).run P w = .ok (.value (.int .i64 ((i % n : Nat) : Int))) w := by
  have hne : ¬ n = 0 := by omega
  unfold execOp
  simp only [ho, hx, hy]
  simp [eqGuard, binOp, Op.intDiv, hne, Int.tmod_eq_emod_of_nonneg (show (0 : Int) ≤ (i : Int) by omega)]
end Wk
