/- What the row rests on, part 3. -/
import Derived.Maps.AppendAt
import Derived.OwnWalk
import Derived.Laws.CopyOwn
import Derived.Laws.MakeOwn
import Derived.Deep.AppendLies
import Derived.Lib.SlBytesConst
import Derived.Laws.Strings
import Derived.Laws.CopyRow
import Derived.Lib.AppendZerosOnto
import Derived.Laws.Entries
import Derived.Test.YtgbadghjnpbiaaaGreatDoorProg
import Derived.WalkKit
import Derived.WalkLawsBesides
import Derived.WalkSpells
import Derived.Deep.QuietTactic
import Derived.BigQuiet
import Derived.Test.YtgbadghjnpbiaaaGreatDoorRG2
import Derived.Test.YtgbadghjnpbiaaaGreatDoorRG1
namespace Wk
open Go Go.RowKit
def Off (k : Nat) : List Nat → Prop
 | [] => True
 | s :: S => k ≠ s ∧ Off k S
theorem Off.append {k : Nat} : ∀ {S T : List Nat}, Off k (S ++ T) → Off k S ∧ Off k T
 | [], _, h => ⟨trivial, h⟩
 | _ :: _, _, h => let ⟨a, b⟩ := Off.append h.2; ⟨⟨h.1, a⟩, b⟩
theorem Off.of_lt {k B : Nat} (hk : k < B) : ∀ {S : List Nat}, (∀ s ∈ S, B ≤ s) → Off k S
 | [], _ => trivial
 | s :: _, h => ⟨by have := h s (by simp); omega, Off.of_lt hk fun x hx => h x (by simp [hx])⟩
theorem Off.mem {k : Nat} : ∀ {S : List Nat}, Off k S → ∀ s ∈ S, k ≠ s
 | _ :: _, h, s, hs => by
  rcases List.mem_cons.1 hs with rfl | hs
  ·exact h.1
  ·exact h.2.mem s hs
structure Chg (S : List Nat) (w w' : World) : Prop where
 os : w'.os = w.os
 tape : w'.tape = w.tape
 output : w'.output = w.output
 size : w.heap.size ≤ w'.heap.size
 block : ∀ k, k < w.heap.size → Off k S → w'.heap[k]? = w.heap[k]?
theorem Chg.refl (w : World) : Chg [] w w := ⟨rfl, rfl, rfl, Nat.le_refl _, fun _ _ _ => rfl⟩
theorem Chg.trans {S T : List Nat} {a b c : World} (h : Chg S a b) (k : Chg T b c) : Chg (S ++ T) a c :=
 ⟨k.os.trans h.os, k.tape.trans h.tape, k.output.trans h.output, Nat.le_trans h.size k.size, fun i hi ho => (k.block i (Nat.lt_of_lt_of_le hi h.size) ho.append.2).trans (h.block i hi ho.append.1)⟩
theorem Chg.more {S T : List Nat} {a b : World} (h : Chg S a b) (hs : ∀ s ∈ S, s ∈ T) : Chg T a b :=
 ⟨h.os, h.tape, h.output, h.size, fun i hi ho => h.block i hi (by
  clear h
  induction S with
  | nil => trivial
  | cons s S ih => exact ⟨ho.mem s (hs s (by simp)), ih fun x hx => hs x (by simp [hx])⟩)⟩
theorem Chg.drewN (w : World) (n : Nat) : Chg [] w (w.drewN n) := ⟨rfl, rfl, rfl, Nat.le_refl _, fun _ _ _ => rfl⟩
theorem Chg.drew (w : World) : Chg [] w w.drew := ⟨rfl, rfl, rfl, Nat.le_refl _, fun _ _ _ => rfl⟩
theorem Chg.alloc (w : World) (o : Obj) : Chg [] w (w.alloc o) := ⟨rfl, rfl, rfl, by simp, fun k hk _ => Below.heap_alloc w o k hk⟩
theorem Chg.ofBelow {w w' : World} (h : Below w.heap.size w w') : Chg [] w w' := ⟨h.os, h.tape, h.output, h.size, fun k hk _ => h.block k hk⟩
theorem Chg.below {S : List Nat} {w w' : World} {B : Nat} (h : Chg S w w') (hB : B ≤ w.heap.size) (hs : ∀ s ∈ S, B ≤ s) : Below B w w' :=
 ⟨h.os, h.tape, h.output, h.size, fun k hk => h.block k (by omega) (Off.of_lt hk hs)⟩
theorem Chg.below0 {w w' : World} (h : Chg [] w w') : Below w.heap.size w w' := h.below (Nat.le_refl _) (by simp)
theorem Chg.grown {w w' : World} {row : Option Nat} (h : w.grownBy w' row) {S : List Nat} (hS : ∀ k, row = some k → k ∈ S) : Chg S w w' :=
 ⟨h.os, h.tape, h.output, h.size, fun k hk ho => h.block k hk (fun e => ho.mem k (hS k e.symm) rfl)⟩
theorem Chg.hp {S : List Nat} {w w' : World} (h : Chg S w w') {k : Nat} {o : Obj} (hk : w.heap[k]? = some o) (ho : Off k S) : w'.heap[k]? = some o := (h.block k (Array.getElem?_eq_some_iff.1 hk).1 ho).trans hk
theorem Chg.cell {S : List Nat} {w w' : World} (h : Chg S w w') {g o : Nat} {v : Value} (hc : w.cell? ⟨g, o, none⟩ = some v) (ho : Off g S) : w'.cell? ⟨g, o, none⟩ = some v :=
 (World.cell?_of_block (w := w) (a := ⟨g, o, none⟩) (h.block g (World.block_lt_of_cell? w ⟨g, o, none⟩ hc) ho)).trans hc
theorem Chg.range {S : List Nat} {w w' : World} (h : Chg S w w') {g o : Nat} {cs : List Value} (hr : w.rangeAt g o cs) (ho : Off g S) : w'.rangeAt g o cs := fun j v hv => h.cell (hr j v hv) ho
def NewOr (B : Nat) (S : List Nat) : List Nat → Prop
 | [] => True
 | t :: T => (t ∈ S ∨ B ≤ t) ∧ NewOr B S T
theorem Off.newOr {B k : Nat} (hk : k < B) {S : List Nat} (h : Off k S) : ∀ {T : List Nat}, NewOr B S T → Off k T
 | [], _ => trivial
 | t :: _, ⟨h1, h2⟩ => ⟨by
   rcases h1 with h1 | h1
   ·exact h.mem t h1
   ·omega, Off.newOr hk h h2⟩
theorem Chg.step {S T : List Nat} {a b c : World} (h : Chg S a b) (k : Chg T b c) (ht : NewOr a.heap.size S T) : Chg S a c :=
 ⟨k.os.trans h.os, k.tape.trans h.tape, k.output.trans h.output, Nat.le_trans h.size k.size, fun i hi ho => (k.block i (Nat.lt_of_lt_of_le hi h.size) (ho.newOr hi ht)).trans (h.block i hi ho)⟩
def blk (v : Value) : List Nat := match v.ownBlock with
 | some g => [g]
 | none => []
theorem mem_blk {v : Value} {k : Nat} (h : v.ownBlock = some k) : k ∈ blk v := by simp [blk, h]
theorem off_blk {v : Value} {k : Nat} (h : ∀ g, v.ownBlock = some g → k ≠ g) : Off k (blk v) := by
 unfold blk
 split
 ·rename_i g hg
  exact ⟨h g hg, trivial⟩
 ·trivial
theorem newOr_blk {B : Nat} {S : List Nat} {v : Value} (h : ∀ g, v.ownBlock = some g → B ≤ g) : NewOr B S (blk v) := by
 unfold blk
 split
 ·rename_i g hg
  exact ⟨.inr (h g hg), trivial⟩
 ·trivial
theorem range_row {w : World} {g : Nat} {cs : Array Value} {t : TypeId} {fr : Nat × Nat} (h : w.heap[g]? = some (.cells cs t fr)) : w.rangeAt g 0 cs.toList := fun j v hv => by
 rw [Nat.zero_add, cell_of_row w g j cs t fr h]
 simpa using hv
theorem range_sub {w : World} {g : Nat} {cs : Array Value} {t : TypeId} {fr : Nat × Nat} (o : Nat) (sub : List Value) (h : w.heap[g]? = some (.cells cs t fr)) (e : (cs.toList.drop o).take sub.length = sub) : w.rangeAt g o sub := fun j v hv => by
 rw [cell_of_row w g (o + j) cs t fr h]
 have hj := (List.getElem?_eq_some_iff.1 hv).1
 rw [← e, List.getElem?_take, if_pos (by omega), List.getElem?_drop] at hv
 simpa using hv
theorem new_ex {P : Program} {w : World} {s : Sem Next} (v : Value) (cs : Array Value) (t : TypeId) (h : s.run P w = .ok (.value v) (w.alloc (.cells cs t))) :
  ∃ v1 w1, s.run P w = .ok (.value v1) w1 ∧ v1 = v ∧ w1.heap[w.heap.size]? = some (.cells cs t (0, 0)) ∧ Chg [] w w1 ∧ w.heap.size < w1.heap.size :=
 ⟨v, _, h, rfl, heap_alloc_new w _, Chg.alloc w _, by simp⟩
theorem dReg {P : Program} {id : Nat} {ops : Array Oper} {Q : Exit → Act → World → Prop} {a : Act} {w : World} (S : List Nat) (hm : P.follows .mixedOrders = true)
  (h : ∀ w1, Chg [] w w1 → w1.heap.size = w.heap.size → wpAnyH P .any ops Q (fun w' => Chg S w1 w') ops.size (Array.replicate ops.size false) a w1) : (Code.region id ops true).wp P Q a w :=
 wp_region_held (S := fun w' => Chg S w.drew w') hm (h w.drew (Chg.drew w) rfl)
def Sl (w : World) (A : Option Addr) (n sz : Nat) (cs : List Value) : Prop := cs.length = n * sz ∧ (cs ≠ [] → ∃ g off, A = some ⟨g, off, none⟩ ∧ w.rangeAt g off cs)
theorem Sl.nil (w : World) (A : Option Addr) (sz : Nat) : Sl w A 0 sz [] := ⟨by simp, fun h => absurd rfl h⟩
theorem Sl.chg {S : List Nat} {w w' : World} {A : Option Addr} {n sz : Nat} {cs : List Value} (h : Sl w A n sz cs) (c : Chg S w w') (ho : ∀ g off, A = some ⟨g, off, none⟩ → g < w.heap.size → Off g S) : Sl w' A n sz cs :=
 ⟨h.1, fun hn => by
  obtain ⟨g, off, e, hr⟩ := h.2 hn
  have hlt : g < w.heap.size := by
   rcases cs with _ | ⟨v, cs⟩
   ·exact absurd rfl hn
   ·exact World.block_lt_of_cell? w ⟨g, off + 0, none⟩ (hr 0 v rfl)
  exact ⟨g, off, e, c.range hr (ho g off e hlt)⟩⟩
theorem Sl.below {w w' : World} {A : Option Addr} {n sz : Nat} {cs : List Value} (h : Sl w A n sz cs) (b : Below w.heap.size w w') : Sl w' A n sz cs := h.chg (Chg.ofBelow b) fun _ _ _ _ => trivial
theorem Sl.cell {w : World} {g off n sz : Nat} {cs : List Value} (h : Sl w (some ⟨g, off, none⟩) n sz cs) {j : Nat} {v : Value} (hv : cs[j]? = some v) : w.cell? ⟨g, off + j, none⟩ = some v := by
 obtain ⟨g', off', e, hr⟩ := h.2 (by rintro rfl; simp at hv)
 injection e with e
 injection e with e1 e2
 subst e1 e2
 exact hr j v hv
section runs
variable {P : Program} {a : Act} {o : Oper} {w : World}
theorem index_sl (t e : TypeId) (x y : Operand) (ho : o.op = .indexAddr t x y) (ht : P.underlying t = some (.slice e)) (sz : Nat) (hsz : (P.info? e).map (·.size) = some sz) (g off n c i : Nat) (k : IntKind) (hx : a.eval x = .slice (some ⟨g, off, none⟩) n c)
  (hy : a.eval y = .int k (i : Int)) (hlt : i < n) : (execOp a.eval o).run P w = .ok (.value (.pointer (some ⟨g, off + i * sz, none⟩))) w := by
 obtain ⟨inf, hi, hs⟩ := Option.map_eq_some_iff.1 hsz
 unfold execOp
 simp only [ho, hx, hy]
 have h1 : (0 : Int) ≤ (i : Int) ∧ (i : Int) < (n : Int) := by omega
 simp [Instr.indexAt, asIntOf, run_underlying ht, Go.sizeOf, typeInfo, hi, hs, hlt, Addr.add_mid]
theorem index_arr (t e : TypeId) (x y : Operand) (ho : o.op = .indexAddr t x y) (n : Nat) (ht : P.underlying t = some (.array n e)) (sz : Nat) (hsz : (P.info? e).map (·.size) = some sz) (g off i : Nat) (k : IntKind) (hx : a.eval x = .pointer (some ⟨g, off, none⟩))
  (hy : a.eval y = .int k (i : Int)) (hlt : i < n) : (execOp a.eval o).run P w = .ok (.value (.pointer (some ⟨g, off + i * sz, none⟩))) w := by
 obtain ⟨inf, hi, hs⟩ := Option.map_eq_some_iff.1 hsz
 unfold execOp
 simp only [ho, hx, hy]
 simp [Instr.indexAt, asIntOf, Instr.sureAddr, run_underlying ht, Go.sizeOf, typeInfo, hi, hs, hlt, Addr.add_mid]
theorem load1 (ty : TypeId) (x : Operand) (ho : o.op = .load ty x) (hu : (match P.underlying ty with | some (.struct _) | some (.array _ _) | none => false | _ => true) = true) (ad : Addr) (hx : a.eval x = .pointer (some ad)) (v : Value) (hc : w.cell? ad = some v) :
  (execOp a.eval o).run P w = .ok (.value v) w := by
 unfold execOp
 simp only [ho, hx, Instr.loadAt, Instr.sureAddr, Sem.run_bind, Sem.run_pure, Result.andThen_ok, loadVar]
 have hb : (isAgg ty).run P w = .ok false w := by
  unfold isAgg
  cases h : P.underlying ty with
  | none => rw [h] at hu; cases hu
  | some d =>
   rw [h] at hu
   simp only [Sem.run_bind, run_underlying h, Result.andThen_ok]
   cases d <;> first | rfl | cases hu
 simp only [hb, Result.andThen_ok, Bool.false_eq_true, if_false]
 simp [load, Sem.run, hc]
theorem loadR (ty : TypeId) (x : Operand) (ho : o.op = .load ty x) (d : TypeDesc) (hu : P.underlying ty = some d) (hd : d.isRow = true) (g off : Nat) (hx : a.eval x = .pointer (some ⟨g, off, none⟩)) (cs : List Value)
  (hi : (P.info? ty).map (·.size) = some cs.length) (hc : w.rangeAt g off cs) : (execOp a.eval o).run P w = .ok (.value (.agg cs.toArray)) w := by
 unfold execOp
 simp only [ho, hx, Sem.run_bind, run_loadAt_mid w g off ty cs d hc hu hd hi, Result.andThen_ok, Sem.run_pure]
theorem store1 (ty : TypeId) (x y : Operand) (ho : o.op = .store ty x y) (hi : (P.info? ty).map (·.size) = some 1) (g off : Nat) (hx : a.eval x = .pointer (some ⟨g, off, none⟩)) (v : Value) (hy : a.eval y = v) (h1 : v.oneCell' = true)
    (t : TypeId) (cs : Array Value) (hg : w.heap[g]? = some (.cells cs t (0, 0))) (hlt : off < cs.size) :
    ∃ w', (execOp a.eval o).run P w = .ok .skip w' ∧ w'.heap[g]? = some (.cells (cs.setIfInBounds off v) t (0, 0)) ∧ Chg [g] w w' := by
  refine ⟨w.setCell ⟨g, off, none⟩ v, ?_, heap_setCell_same w g off cs t v hg, ⟨rfl, rfl, rfl, by simp [World.setCell], fun k _ hk => Below.heap_setCell _ _ _ _ hk.1⟩⟩
  obtain ⟨inf, hinf, hs⟩ := Option.map_eq_some_iff.1 hi
  have hc : w.cell? ⟨g, off, none⟩ = some cs[off] := by rw [cell_of_row w g off cs t _ hg, Array.getElem?_eq_getElem hlt]
  have hz : w.frozen? ⟨g, off, none⟩ = false := frozen_of_row w g off cs t hg
  have hcells : v.cells = #[v] := by cases v <;> first | rfl | cases h1
  have hsz : (Go.sizeOf ty).run P w = .ok 1 w := by simp [Go.sizeOf, typeInfo, hinf, hs]
  have hst : (storeVar ty ⟨g, off, none⟩ v).run P w = .ok () (w.setCell ⟨g, off, none⟩ v) := by
    unfold storeVar
    rw [hcells]
    simp only [Sem.run_bind, hsz, Result.andThen_ok]
    rw [if_neg (by simp)]
    have := run_storeCells_cells (P := P) g off [v] 0 w (fun j hj => by obtain rfl : j = 0 := by simpa using hj
                                                                        simp [hc]) (fun j hj => by obtain rfl : j = 0 := by simpa using hj
                                                                                                   simpa using hz) (by simpa using h1)
    simpa [World.setCells] using this
  unfold execOp
  simp only [ho, hx, hy, Instr.storeAt, Instr.sureAddr, Sem.run_bind, Sem.run_pure, Result.andThen_ok, hst]
theorem setCells_chg (g : Nat) : ∀ (vs : List Value) (o : Nat) (w : World), Chg [g] w (w.setCells g o vs)
 | [], _, w => (Chg.refl w).more (by simp)
 | v :: vs, o, w => by
  have h1 : Chg [g] w (w.setCell ⟨g, o, none⟩ v) := ⟨rfl, rfl, rfl, by simp [World.setCell], fun k _ hk => Below.heap_setCell _ _ _ _ hk.1⟩
  exact (h1.trans (setCells_chg g vs (o + 1) _)).more (by simp)
theorem splice_set {α : Type} (cs : List α) (o : Nat) (v : α) (r : List α) (h : o < cs.length) : splice (cs.set o v) (o + 1) r = splice cs o (v :: r) := by
 unfold splice
 rw [List.take_set, List.take_succ_eq_append_getElem (by omega), List.drop_set_of_lt (by omega)]
 simp only [List.length_cons, List.cons_append]
 rw [List.set_append_right _ _ (by simp only [List.length_take]; omega)]
 simp only [List.length_take, Nat.min_eq_left (Nat.le_of_lt h), Nat.sub_self, List.set_cons_zero, List.append_assoc, List.cons_append, List.nil_append]
 rw [show o + 1 + r.length = o + (r.length + 1) by omega]
theorem heap_setCells (g : Nat) (t : TypeId) : ∀ (vs : List Value) (o : Nat) (w : World) (cs : List Value), w.heap[g]? = some (.cells cs.toArray t (0, 0)) → o + vs.length ≤ cs.length → (w.setCells g o vs).heap[g]? = some (.cells (splice cs o vs).toArray t (0, 0))
 | [], o, w, cs, h, hl => by
  have : splice cs o [] = cs := by simp [splice]
  rw [this]
  exact h
 | v :: vs, o, w, cs, h, hl => by
  simp only [List.length_cons] at hl
  have h1 := heap_setCell_same w g o cs.toArray t v h
  rw [List.setIfInBounds_toArray] at h1
  have h2 := heap_setCells g t vs (o + 1) (w.setCell ⟨g, o, none⟩ v) (cs.set o v) h1 (by simp; omega)
  rw [splice_set cs o v vs (by omega)] at h2
  exact h2
theorem storeR (ty : TypeId) (x y : Operand) (ho : o.op = .store ty x y) (g off : Nat) (hx : a.eval x = .pointer (some ⟨g, off, none⟩)) (vs : List Value) (hy : a.eval y = .agg vs.toArray) (hi : (P.info? ty).map (·.size) = some vs.length) (h1 : ∀ v ∈ vs, v.oneCell' = true)
  (t : TypeId) (cs : List Value) (hg : w.heap[g]? = some (.cells cs.toArray t (0, 0))) (hlt : off + vs.length ≤ cs.length) :
  ∃ w', (execOp a.eval o).run P w = .ok .skip w' ∧ w'.heap[g]? = some (.cells (splice cs off vs).toArray t (0, 0)) ∧ Chg [g] w w' := by
 have hth : w.there g off vs.length := fun j hj => by
  refine ⟨?_, frozen_of_row w g _ _ t hg⟩
  rw [cell_of_row w g (off + j) _ t _ hg]
  simp only [List.getElem?_toArray]
  rw [List.getElem?_eq_getElem (by omega)]
  rfl
 refine ⟨w.setCells g off vs, ?_, ?_, ?_⟩
 ·unfold execOp
  simp only [ho, hx, hy, Sem.run_bind, run_storeAt_mid w g off ty vs.toArray (by simpa using hth) (by simpa using hi) (all_oneCell_toArray h1), Result.andThen_ok, Sem.run_pure]
 ·exact heap_setCells g t vs off w cs hg hlt
 ·exact setCells_chg g vs off w
theorem append_run (s x : Operand) (t e : TypeId) (ho : o.op = .call { callee := .builtin .append, args := #[s, x], argTypes := #[t, t] }) (ht : P.underlying t = some (.slice e)) (z : Value) (sz bytes : Nat)
  (hinfo : (P.info? e).map (fun i => (i.zero, i.size, i.bytes)) = some (some z, sz, bytes)) (hz : z.cells.size = sz) (hsz : 0 < sz) (base : Nat) (v : Value) (n : Nat) (xs : List Value) (A : Option Addr) (m c : Nat) (ys : List Value) (hs : a.eval s = v) (hx : a.eval x = .slice A m c)
  (HO : w.ownsRow base e sz v n xs) (HR : Sl w A m sz ys) (hA : A = none → c = 0) (h1 : ∀ u ∈ ys, u.oneCell' = true) (hbase : base ≤ w.heap.size) (h63 : n + m ≤ maxLen) (hl : (n + m) * bytes ≤ 140737488355328) :
  ∃ v1 w1, (execOp a.eval o).run P w = .ok (.value v1) w1 ∧ w1.ownsRow base e sz v1 (n + m) (xs ++ ys) ∧ Chg (blk v) w w1 ∧ (v1.ownBlock = v.ownBlock ∨ v1.ownBlock = some w.heap.size) := by
 obtain ⟨i0, hi, hzz⟩ := Option.map_eq_some_iff.1 hinfo
 simp only [Prod.mk.injEq] at hzz
 obtain ⟨hz0, hz1, hz2⟩ := hzz
 have key : ∃ v1 w1, (Builtin.append_ #[t, t] o.type #[v, .slice A m c]).run P w = .ok v1 w1 ∧ w1.ownsRow base e sz v1 (n + m) (xs ++ ys) ∧ Chg (blk v) w w1 ∧ (v1.ownBlock = v.ownBlock ∨ v1.ownBlock = some w.heap.size) := by
  rcases A with _ | ad
  ·have h0 : ys = [] := by
    rcases ys with _ | ⟨y, ys⟩
    ·rfl
    ·obtain ⟨g, off, h, _⟩ := HR.2 (by simp)
     cases h
   subst h0
   have hm : m = 0 := by
    have := HR.1
    simp only [List.length_nil] at this
    rcases Nat.eq_zero_or_pos m with h | h
    ·exact h
    ·have := Nat.mul_pos h hsz
     omega
   subst hm
   obtain rfl := hA rfl
   refine ⟨v, w, ?_, by simpa using HO, (Chg.refl w).more (by simp), .inl rfl⟩
   exact run_append_owned_none (P := P) (w := w) base t o.type e i0 sz ht hi v n xs HO
  ·have hcells : ∀ j u, ys[j]? = some u → w.cell? (ad.add j) = some u := by
    intro j u hu
    obtain ⟨g, off, h', hc⟩ := HR.2 (by rintro rfl; simp at hu)
    injection h' with h'
    subst h'
    rw [Addr.add_mid]
    exact hc j u hu
   obtain ⟨v1, w1, hr, h2, h3, _, h5⟩ := run_append_own_at (P := P) w base t o.type e i0 z sz bytes ht hi hz0 hz1 hz2 hz hsz v n xs HO ad m c ys HR.1 hcells h1 h63 hl hbase
   exact ⟨v1, w1, hr, h2, Chg.grown h3 fun k hk => mem_blk hk, h5⟩
 obtain ⟨v1, w1, hr, h2, h3, h5⟩ := key
 refine ⟨v1, w1, ?_, h2, h3, h5⟩
 unfold execOp
 simp only [ho, resolve, invoke, builtin, Sem.run_bind, Sem.run_pure, Result.andThen_ok, List.map_toArray, List.map_cons, List.map_nil, hs, hx, hr]
end runs
theorem own_chg {w w' : World} {base : Nat} {e : TypeId} {sz : Nat} {v : Value} {n : Nat} {xs : List Value} {S : List Nat} (h : w.ownsRow base e sz v n xs) (c : Chg S w w') (ho : ∀ g, v.ownBlock = some g → base ≤ g → g < w.heap.size → Off g S) : w'.ownsRow base e sz v n xs := by
 obtain ⟨h1, h2⟩ := h
 refine ⟨h1, ?_⟩
 rcases h2 with h2 | ⟨g, cap, cur, hv, hg, hh, r⟩
 ·exact .inl h2
 ·exact .inr ⟨g, cap, cur, hv, hg, c.hp hh (ho g (by rw [hv]; rfl) hg (Array.getElem?_eq_some_iff.1 hh).1), r⟩
theorem own_sl {w : World} {base : Nat} {e : TypeId} {sz : Nat} {v : Value} {n : Nat} {xs : List Value} (h : w.ownsRow base e sz v n xs) : ∃ A c, v = .slice A n c ∧ n ≤ c ∧ c ≤ maxLen ∧ (A = none → c = 0) ∧ Sl w A n sz xs ∧ ∀ g off, A = some ⟨g, off, none⟩ → base ≤ g ∧ g < w.heap.size := by
 obtain ⟨h1, h2⟩ := h
 rcases h2 with ⟨rfl, rfl⟩ | ⟨g, cap, cur, rfl, hb, hg, hnc, hcm, hcs, ht⟩
 ·obtain rfl : xs = [] := List.eq_nil_of_length_eq_zero (by simpa using h1)
  exact ⟨none, 0, rfl, Nat.le_refl _, by unfold maxLen; omega, fun _ => rfl, Sl.nil _ _ _, fun g off h => by cases h⟩
 ·refine ⟨_, cap, rfl, hnc, hcm, (fun h => by cases h), ⟨h1, fun _ => ⟨g, 0, rfl, fun j u hu => ?_⟩⟩, fun g' off h => ?_⟩
  ·rw [Nat.zero_add, cell_of_row w g j cur e _ hg, ← ht] at *
   rw [List.getElem?_take] at hu
   split at hu
   ·rw [← hu, Array.getElem?_toList]
   ·cases hu
  ·injection h with h
   injection h with h1 h2
   subst h1
   exact ⟨hb, (Array.getElem?_eq_some_iff.1 hg).1⟩
theorem own_some {w : World} {base : Nat} {e : TypeId} {sz : Nat} {A : Option Addr} {c n : Nat} {xs : List Value} (h : w.ownsRow base e sz (.slice A n c) n xs) (hn : 0 < n) : ∃ g, A = some ⟨g, 0, none⟩ ∧ Sl w (some ⟨g, 0, none⟩) n sz xs := by
 obtain ⟨A', c', e1, _, _, _, hs, _⟩ := own_sl h
 injection e1 with e1 e2 e3
 subst e1
 rcases h.2 with ⟨h1, h2⟩ | ⟨g, cap, cur, h1, _⟩
 ·omega
 ·injection h1 with h1
  subst h1
  exact ⟨g, rfl, hs⟩
end Wk
namespace Wk
open Go Go.RowKit
theorem rem_nat {P : Program} {w : World} {a : Act} {o : Oper} (t ty : TypeId) (x y : Operand) (ho : o.op = .binOp .rem t x y ty) (i n : Nat) (hx : a.eval x = .int .i64 (i : Int)) (hy : a.eval y = .int .i64 (n : Int)) (hn : 0 < n) :
  (execOp a.eval o).run P w = .ok (.value (.int .i64 ((i % n : Nat) : Int))) w := by
 have hne : ¬ n = 0 := by omega
 unfold execOp
 simp only [ho, hx, hy]
 simp [eqGuard, binOp, Op.intDiv, hne, Int.tmod_eq_emod_of_nonneg (show (0 : Int) ≤ (i : Int) by omega)]
end Wk
namespace Go
open Wk
theorem ld {P : Program} {a : Act} {w : World} {o : Oper} (ty : TypeId) (x g off : Nat) (v : Value) (hc : w.cell? ⟨g, off, none⟩ = some v) (ho : o.op = .load ty (.tmp x) := by exact rfl) (hi : (match P.underlying ty with | some (.struct _) | some (.array _ _) | none => false | _ => true) = true := by kernel_rfl) (hx : a.eval (.tmp x) = .pointer (some ⟨g, off, none⟩) := by kernel_rfl) : (execOp a.eval o).run P w = .ok (.value v) w := load1 ty (.tmp x) ho hi ⟨g, off, none⟩ hx v hc
end Go
namespace Go
open Wk
section
variable {P : Program} {ops : Array Oper} {Q : Exit → Act → World → Prop} {a : Act} {w : World} {o : Oper}
theorem bT (i d : Nat) (p : Prop) [Decidable p] (h : From P ops Q (i + 1) (a.put (some d) (.bool true)) w) (hp : p := by first | assumption | omega | decide) (hi : ops[i]? = some o := by exact rfl) (hd : o.dst = some d := by exact rfl) (hw : Region.wanted o (yielded ops a.tmps) = true := by kernel_rfl) (hrun : (execOp a.eval o).run P w = .ok (.value (.bool (decide p))) w := by kernel_rfl) : From P ops Q i a w := rPure i (some d) _ hi hd hw (boolT (decide_eq_true hp) hrun) h
theorem bF (i d : Nat) (p : Prop) [Decidable p] (h : From P ops Q (i + 1) (a.put (some d) (.bool false)) w) (hp : ¬ p := by first | assumption | omega | decide) (hi : ops[i]? = some o := by exact rfl) (hd : o.dst = some d := by exact rfl) (hw : Region.wanted o (yielded ops a.tmps) = true := by kernel_rfl) (hrun : (execOp a.eval o).run P w = .ok (.value (.bool (decide p))) w := by kernel_rfl) : From P ops Q i a w := rPure i (some d) _ hi hd hw (boolF (decide_eq_false hp) hrun) h
theorem eT (i d : Nat) (x y : Int) (h : From P ops Q (i + 1) (a.put (some d) (.bool true)) w) (hp : x = y := by first | assumption | omega | decide) (hi : ops[i]? = some o := by exact rfl) (hd : o.dst = some d := by exact rfl) (hw : Region.wanted o (yielded ops a.tmps) = true := by kernel_rfl) (hrun : (execOp a.eval o).run P w = .ok (.value (.bool (x == y))) w := by kernel_rfl) : From P ops Q i a w := rPure i (some d) _ hi hd hw (boolT (beq_iff_eq.2 hp) hrun) h
theorem eF (i d : Nat) (x y : Int) (h : From P ops Q (i + 1) (a.put (some d) (.bool false)) w) (hp : ¬ x = y := by first | assumption | omega | decide) (hi : ops[i]? = some o := by exact rfl) (hd : o.dst = some d := by exact rfl) (hw : Region.wanted o (yielded ops a.tmps) = true := by kernel_rfl) (hrun : (execOp a.eval o).run P w = .ok (.value (.bool (x == y))) w := by kernel_rfl) : From P ops Q i a w := rPure i (some d) _ hi hd hw (boolF (beq_eq_false_iff_ne.2 hp) hrun) h
theorem nT (i d : Nat) (x y : Int) (h : From P ops Q (i + 1) (a.put (some d) (.bool true)) w) (hp : x ≠ y := by first | assumption | omega | decide) (hi : ops[i]? = some o := by exact rfl) (hd : o.dst = some d := by exact rfl) (hw : Region.wanted o (yielded ops a.tmps) = true := by kernel_rfl) (hrun : (execOp a.eval o).run P w = .ok (.value (.bool (x != y))) w := by kernel_rfl) : From P ops Q i a w := rPure i (some d) _ hi hd hw (boolT (bne_iff_ne.2 hp) hrun) h
theorem nF (i d : Nat) (x y : Int) (h : From P ops Q (i + 1) (a.put (some d) (.bool false)) w) (hp : x = y := by first | (exact Classical.not_not.1 (by assumption)) | assumption | omega) (hi : ops[i]? = some o := by exact rfl) (hd : o.dst = some d := by exact rfl) (hw : Region.wanted o (yielded ops a.tmps) = true := by kernel_rfl) (hrun : (execOp a.eval o).run P w = .ok (.value (.bool (x != y))) w := by kernel_rfl) : From P ops Q i a w := rPure i (some d) _ hi hd hw (boolF (bne_eq_false_iff_eq.2 hp) hrun) h
end
end Go
namespace Go
open Wk
theorem noB {p : Prop} {S : List Nat} {w w' : World} (h : ¬ p) (c : Chg S w w') : ∃ v, (Ending.returned (.bool false)) = .returned (.bool v) ∧ (v = true ↔ p) ∧ Chg S w w' := ⟨_, rfl, ⟨fun h_ => (by cases h_), fun e_ => absurd e_ h⟩, c⟩
theorem yesB {p : Prop} {S : List Nat} {w w' : World} (h : p) (c : Chg S w w') : ∃ v, (Ending.returned (.bool true)) = .returned (.bool v) ∧ (v = true ↔ p) ∧ Chg S w w' := ⟨_, rfl, ⟨fun _ => h, fun _ => rfl⟩, c⟩
theorem qT {S : List Nat} {w w' : World} (h : Chg S w w') {k : Nat} {o : Obj} (hk : w.heap[k]? = some o) (ho : Off k S := by exact trivial) : w'.heap[k]? = some o := Chg.hp h hk ho
theorem qO {S : List Nat} {w w' : World} (h : Chg S w w') {k : Nat} {o : Obj} (hk : w.heap[k]? = some o) (ho : Off k S := by exact ⟨by omega, trivial⟩) : w'.heap[k]? = some o := Chg.hp h hk ho
theorem kA {S T : List Nat} {a b c : World} (h : Chg S a b) (k : Chg T b c) (ht : NewOr a.heap.size S T := by exact trivial) : Chg S a c := Chg.step h k ht
theorem kB {S T : List Nat} {a b c : World} (h : Chg S a b) (k : Chg T b c) (ht : NewOr a.heap.size S T := by exact ⟨.inr (by omega), trivial⟩) : Chg S a c := Chg.step h k ht
theorem kC {S T : List Nat} {a b c : World} (h : Chg S a b) (k : Chg T b c) (ht : NewOr a.heap.size S T := by exact ⟨.inl (by simp), trivial⟩) : Chg S a c := Chg.step h k ht
theorem kD {S T : List Nat} {a b c : World} (h : Chg S a b) (k : Chg T b c) (ht : NewOr a.heap.size S T := by exact ⟨.inr (by omega), ⟨.inr (by omega), trivial⟩⟩) : Chg S a c := Chg.step h k ht
theorem zA {S T : List Nat} {b c : World} (k : Chg T b c) (ht : NewOr b.heap.size S T := by exact trivial) : Chg S b c := Chg.step ((Chg.refl _).more (by simp)) k ht
theorem zB {S T : List Nat} {b c : World} (k : Chg T b c) (ht : NewOr b.heap.size S T := by exact ⟨.inr (by omega), trivial⟩) : Chg S b c := Chg.step ((Chg.refl _).more (by simp)) k ht
theorem zC {S T : List Nat} {b c : World} (k : Chg T b c) (ht : NewOr b.heap.size S T := by exact ⟨.inl (by simp), trivial⟩) : Chg S b c := Chg.step ((Chg.refl _).more (by simp)) k ht
theorem zD {S T : List Nat} {b c : World} (k : Chg T b c) (ht : NewOr b.heap.size S T := by exact ⟨.inr (by omega), ⟨.inr (by omega), trivial⟩⟩) : Chg S b c := Chg.step ((Chg.refl _).more (by simp)) k ht
abbrev Ret (K : Value → Prop) : Ending → Prop
 | .returned v => K v
 | _ => False
theorem Ret.ex {K : Value → Prop} : ∀ {e : Ending}, Ret K e → ∃ v, e = .returned v ∧ K v
 | .returned v, h => ⟨v, rfl, h⟩
 | .panicked .., h => h.elim
section
variable {P : Program} {ops : Array Oper} {Q : Exit → Act → World → Prop} {a : Act} {w : World} {o : Oper} {next : Act → World → Prop}
theorem nqT {s : Sem Next} {p : Prop} [Decidable p] (h : ¬ p) (e : s.run P w = .ok (.value (.bool (!decide p))) w) : s.run P w = .ok (.value (.bool true)) w := boolT (by rw [decide_eq_false h]; rfl) e
theorem nqF {s : Sem Next} {p : Prop} [Decidable p] (h : p) (e : s.run P w = .ok (.value (.bool (!decide p))) w) : s.run P w = .ok (.value (.bool false)) w := boolF (by rw [decide_eq_true h]; rfl) e
theorem dqT {s : Sem Next} {p : Prop} [Decidable p] (h : p) (e : s.run P w = .ok (.value (.bool (decide p))) w) : s.run P w = .ok (.value (.bool true)) w := boolT (decide_eq_true h) e
theorem dqF {s : Sem Next} {p : Prop} [Decidable p] (h : ¬ p) (e : s.run P w = .ok (.value (.bool (decide p))) w) : s.run P w = .ok (.value (.bool false)) w := boolF (decide_eq_false h) e
theorem retC {fn : Func} {R : Ending → World → Prop} {p : Tmp} {ty : TypeId} {g : Nat} {t : TypeId} {cs : Array Value} {fr : Nat × Nat} (hr : fn.results = #[.cell p ty]) (hg : w.heap[g]? = some (.cells cs t fr)) (hi : (P.info? ty).map (·.size) = some cs.size) (h : R (.returned (.agg cs)) w) (hd : a.defers = [] := by exact rfl) (hu : (match P.underlying ty with | some d => d.isRow | none => false) = true := by kernel_rfl) (hp : a.tmps.getD p undef = .pointer (some ⟨g, 0, none⟩) := by kernel_rfl) : bodyPost P fn R .ret a w := by
 split at hu
 ·rename_i d he
  refine Wk.ret _ hd (results_cell_row hr a.tmps w g t cs fr d hp hg he ?_ hi) h
  cases d <;> first | rfl | cases hu
 ·cases hu
theorem rE (h : Q .normal a w) {i : Nat} (hi : (ops.size == i) = true := by exact rfl) : From P ops Q i a w := rEnd i hi h
theorem eN (h : next a w) {i : Nat} (hi : (ops.size == i) = true := by exact rfl) : From P ops (Exit.then next Q) i a w := rEnd i hi (nxt h)
theorem cT {c : Operand} {x y : Code} (h : x.wp P Q a w) (hc : a.eval c = .bool true := by kernel_rfl) : (Code.cond c x y).wp P Q a w := wp_cond_true hc h
theorem cF {c : Operand} {x y : Code} (h : y.wp P Q a w) (hc : a.eval c = .bool false := by kernel_rfl) : (Code.cond c x y).wp P Q a w := wp_cond_false hc h
theorem sR {id : Nat} {y : Code} (h : From P ops (Exit.then (y.wp P Q) Q) 0 a w) : (Code.seq (.region id ops false) y).wp P Q a w := wp_seq (reg h)
theorem xX {id : Nat} {n1 n2 : Act → World → Prop} (h : Q .normal a w) : (Code.exit id).wp P (Exit.then n1 (Exit.then n2 (Exit.inBlock id Q))) a w := wp_exit (thX (thX (inX h)))
theorem tR (h : Q .ret a w) : Code.ret.wp P (Exit.then next Q) a w := wp_ret (thR h)
theorem tI {id : Nat} (h : Q .ret a w) : Code.ret.wp P (Exit.inBlock id (Exit.then next Q)) a w := wp_ret (inR (thR h))
theorem rq (i d : Nat) (v : Value) (hi : ops[i]? = some o) (hrun : (execOp a.eval o).run P w = .ok (.value v) w) (h : From P ops Q (i + 1) (a.put (some d) v) w) (hd : o.dst = some d := by exact rfl) (hw : Region.wanted o (yielded ops a.tmps) = true := by kernel_rfl) : From P ops Q i a w := rPure i (some d) v hi hd hw hrun h
theorem rL (i d off : Nat) (v : Value) {g : Nat} {cs : Array Value} {t : TypeId} {fr : Nat × Nat} (h : w.heap[g]? = some (.cells cs t fr)) (k : From P ops Q (i + 1) (a.put (some d) v) w) {ty : TypeId} {x : Nat} (hi : ops[i]? = some o := by exact rfl) (hd : o.dst = some d := by exact rfl) (ho : o.op = .load ty (.tmp x) := by exact rfl) (hv : cs[off]? = some v := by exact rfl)
  (hu : (match P.underlying ty with | some (.struct _) | some (.array _ _) | none => false | _ => true) = true := by kernel_rfl) (hx : a.eval (.tmp x) = .pointer (some ⟨g, off, none⟩) := by kernel_rfl) (hw : Region.wanted o (yielded ops a.tmps) = true := by kernel_rfl) : From P ops Q i a w := rPure i (some d) v hi hd hw (load1 ty (.tmp x) ho hu ⟨g, off, none⟩ hx v ((cell_of_row _ _ off _ _ _ h).trans hv)) k
theorem rI (i d : Nat) (n z : Int) (h : From P ops Q (i + 1) (a.put (some d) (.int .i64 z)) w) (e : n = z := by omega) (lo : -9223372036854775808 ≤ z := by omega) (hz : z ≤ 9223372036854775807 := by omega) (hi : ops[i]? = some o := by exact rfl) (hd : o.dst = some d := by exact rfl) (hw : Region.wanted o (yielded ops a.tmps) = true := by kernel_rfl)
  (hr : (execOp a.eval o).run P w = .ok (.value (.int .i64 (IntKind.i64.wrap n))) w := by kernel_rfl) : From P ops Q i a w := rPure i (some d) _ hi hd hw (int64 e lo hz hr) h
theorem nW (i d : Nat) (cs : Array Value) (t : TypeId) (h : ∀ w1 : World, w1.heap[w.heap.size]? = some (.cells cs t (0, 0)) → Chg [] w w1 → w.heap.size < w1.heap.size → From P ops Q (i + 1) (a.put (some d) (pt w.heap.size 0)) w1) (hi : ops[i]? = some o := by exact rfl) (hd : o.dst = some d := by exact rfl) (hw : Region.wanted o (yielded ops a.tmps) = true := by kernel_rfl)
  (hr : (execOp a.eval o).run P w = .ok (.value (pt w.heap.size 0)) (w.alloc (.cells cs t)) := by kernel_rfl) : From P ops Q i a w := rEx i (some d) _ hi hd hw (new_ex _ cs t hr) (by rintro _ w1 ⟨rfl, h1, h2, h3⟩; exact h w1 h1 h2 h3)
theorem nS (i d n : Nat) (cs : Array Value) (t : TypeId) (h : ∀ w1 : World, w1.heap[w.heap.size]? = some (.cells cs t (0, 0)) → Chg [] w w1 → w.heap.size < w1.heap.size → From P ops Q (i + 1) (a.put (some d) (.slice (some ⟨w.heap.size, 0, none⟩) n n)) w1) (hi : ops[i]? = some o := by exact rfl) (hd : o.dst = some d := by exact rfl) (hw : Region.wanted o (yielded ops a.tmps) = true := by kernel_rfl)
  (hr : (execOp a.eval o).run P w = .ok (.value (.slice (some ⟨w.heap.size, 0, none⟩) n n)) (w.alloc (.cells cs t)) := by kernel_rfl) : From P ops Q i a w := rEx i (some d) _ hi hd hw (new_ex _ cs t hr) (by rintro _ w1 ⟨rfl, h1, h2, h3⟩; exact h w1 h1 h2 h3)
theorem oS {i : Nat} {K : Act → World → Prop} (d n : Nat) (cs : Array Value) (t : TypeId) (h : ∀ w1 : World, w1.heap[w.heap.size]? = some (.cells cs t (0, 0)) → Chg [] w w1 → w.heap.size < w1.heap.size → K (a.put (some d) (.slice (some ⟨w.heap.size, 0, none⟩) n n)) w1) (hi : ops[i]? = some o := by exact rfl) (hd : o.dst = some d := by exact rfl) (hw : Region.wanted o (yielded ops a.tmps) = true := by kernel_rfl)
  (hr : (execOp a.eval o).run P w = .ok (.value (.slice (some ⟨w.heap.size, 0, none⟩) n n)) (w.alloc (.cells cs t)) := by kernel_rfl) : At P ops Q i K a w := oEx (some d) _ hi hd hw (new_ex _ cs t hr) (by rintro _ w1 ⟨rfl, h1, h2, h3⟩; exact h w1 h1 h2 h3)
theorem dO (i : Nat) {S : World → Prop} {fuel : Nat} {listed : Array Bool} (h : At P ops Q i (fun a' w' => S w' ∧ wpAnyH P .any ops Q S fuel (listed.setIfInBounds i true) a' w') a w) (hr : Region.ready .any ops listed = [i] := by kernel_rfl) : wpAnyH P .any ops Q S (fuel + 1) listed a w := dOp i hr h
theorem oN {i : Nat} {K : Act → World → Prop} (d : Nat) (cs : Array Value) (t : TypeId) (h : ∀ w1 : World, w1.heap[w.heap.size]? = some (.cells cs t (0, 0)) → Chg [] w w1 → w.heap.size < w1.heap.size → K (a.put (some d) (pt w.heap.size 0)) w1) (hi : ops[i]? = some o := by exact rfl) (hd : o.dst = some d := by exact rfl) (hw : Region.wanted o (yielded ops a.tmps) = true := by kernel_rfl)
  (hr : (execOp a.eval o).run P w = .ok (.value (pt w.heap.size 0)) (w.alloc (.cells cs t)) := by kernel_rfl) : At P ops Q i K a w := oEx (some d) _ hi hd hw (new_ex _ cs t hr) (by rintro _ w1 ⟨rfl, h1, h2, h3⟩; exact h w1 h1 h2 h3)
theorem rU (i : Nat) {A : World → Prop} {S : List Nat} (hi : ops[i]? = some o) (hrun : ∃ w1, (execOp a.eval o).run P w = .ok .skip w1 ∧ A w1 ∧ Chg S w w1) (h : ∀ w1 : World, A w1 → Chg S w w1 → w.heap.size ≤ w1.heap.size → From P ops Q (i + 1) (a.put none undef) w1) (hd : o.dst = none := by exact rfl) (hw : Region.wanted o (yielded ops a.tmps) = true := by kernel_rfl) : From P ops Q i a w :=
 rExS i none _ hi hd hw hrun fun w1 h1 => h w1 h1.1 h1.2 h1.2.size
theorem oU {i : Nat} {K : Act → World → Prop} {A : World → Prop} {S : List Nat} (hi : ops[i]? = some o) (hrun : ∃ w1, (execOp a.eval o).run P w = .ok .skip w1 ∧ A w1 ∧ Chg S w w1) (h : ∀ w1 : World, A w1 → Chg S w w1 → w.heap.size ≤ w1.heap.size → K (a.put none undef) w1) (hd : o.dst = none := by exact rfl) (hw : Region.wanted o (yielded ops a.tmps) = true := by kernel_rfl) : At P ops Q i K a w :=
 oExS none _ hi hd hw hrun fun w1 h1 => h w1 h1.1 h1.2 h1.2.size
theorem rK (i d : Nat) {f : FuncId} {vals : List Value} {R : Ending → World → Prop} (hc : Calls P f vals.toArray w R) (h : ∀ e w', R e w' → Ret (fun v => From P ops Q (i + 1) (a.put (some d) v) w') e) {xs : List Operand} {ts : Array TypeId} (hi : ops[i]? = some o := by exact rfl) (hd : o.dst = some d := by exact rfl)
  (ho : o.op = .call { callee := .value (.func f), args := xs.toArray, argTypes := ts } := by exact rfl) (hw : Region.wanted o (yielded ops a.tmps) = true := by kernel_rfl) (hv : xs.map a.eval = vals := by kernel_rfl) (hrun : (callFunc f vals.toArray).run P w = .ok (.enter f vals.toArray) w := by kernel_rfl) : From P ops Q i a w := rCall i (some d) f xs ts vals hi hd hw ho hv hrun (hc.mono fun e w' h1 => (h e w' h1).ex)
theorem oK {i : Nat} {K : Act → World → Prop} (d : Nat) {f : FuncId} {vals : List Value} {R : Ending → World → Prop} (hc : Calls P f vals.toArray w R) (h : ∀ e w', R e w' → Ret (fun v => K (a.put (some d) v) w') e) {xs : List Operand} {ts : Array TypeId} (hi : ops[i]? = some o := by exact rfl) (hd : o.dst = some d := by exact rfl)
  (ho : o.op = .call { callee := .value (.func f), args := xs.toArray, argTypes := ts } := by exact rfl) (hw : Region.wanted o (yielded ops a.tmps) = true := by kernel_rfl) (hv : xs.map a.eval = vals := by kernel_rfl) (hrun : (callFunc f vals.toArray).run P w = .ok (.enter f vals.toArray) w := by kernel_rfl) : At P ops Q i K a w := oCall (some d) f xs ts vals hi hd hw ho hv hrun (hc.mono fun e w' h1 => (h e w' h1).ex)
theorem dE {S : World → Prop} {fuel : Nat} {listed : Array Bool} (h : Q .normal a w) (hr : Region.ready .any ops listed = [] := by kernel_rfl) : wpAnyH P .any ops Q S fuel listed a w := dEnd hr h
theorem dN {S : World → Prop} {fuel : Nat} {listed : Array Bool} (h : next a w) (hr : Region.ready .any ops listed = [] := by kernel_rfl) : wpAnyH P .any ops (Exit.then next Q) S fuel listed a w := dEnd hr (nxt h)
theorem iS (sz g off n c i : Nat) (hlt : i < n := by omega) {t : TypeId} {x y : Operand} (ho : o.op = .indexAddr t x y := by exact rfl) (hs : (match P.underlying t with | some (.slice e) => (P.info? e).map (·.size) | _ => none) = some sz := by kernel_rfl) (hx : a.eval x = .slice (some ⟨g, off, none⟩) n c := by kernel_rfl) (hy : a.eval y = .int .i64 (i : Int) := by kernel_rfl) : (execOp a.eval o).run P w = .ok (.value (.pointer (some ⟨g, off + i * sz, none⟩))) w := by
 split at hs
 ·rename_i e he
  exact index_sl t e x y ho he sz hs g off n c i .i64 hx hy hlt
 ·cases hs
theorem lR (off : Nat) (cs : List Value) {g : Nat} (hc : w.rangeAt g off cs) {ty : TypeId} {x : Operand} (hi : (P.info? ty).map (·.size) = some cs.length := by kernel_rfl) (ho : o.op = .load ty x := by exact rfl) (hu : (match P.underlying ty with | some d => d.isRow | none => false) = true := by kernel_rfl) (hx : a.eval x = .pointer (some ⟨g, off, none⟩) := by kernel_rfl) : (execOp a.eval o).run P w = .ok (.value (.agg cs.toArray)) w := by
 split at hu
 ·rename_i d hd
  exact loadR ty x ho d hd hu g off hx cs hi hc
 ·cases hu
theorem sW (off : Nat) (v : Value) {g : Nat} {t : TypeId} {cs : Array Value} (hg : w.heap[g]? = some (.cells cs t (0, 0))) {ty : TypeId} {x y : Operand} (ho : o.op = .store ty x y := by exact rfl) (hi : (P.info? ty).map (·.size) = some 1 := by kernel_rfl) (hx : a.eval x = .pointer (some ⟨g, off, none⟩) := by kernel_rfl) (hy : a.eval y = v := by kernel_rfl) (h1 : v.oneCell' = true := by exact rfl) (hlt : off < cs.size := by simp) :
  ∃ w', (execOp a.eval o).run P w = .ok .skip w' ∧ w'.heap[g]? = some (.cells (cs.setIfInBounds off v) t (0, 0)) ∧ Chg [g] w w' := store1 ty x y ho hi g off hx v hy h1 t cs hg hlt
end
end Go
namespace Mur
open Go Go.RowKit Wk
structure Fil where
 b : List UInt8
 n : Nat
structure Dk where
 x : Fil
 y : Fil
def Fil.ok (z : Fil) : Prop := z.n ≤ z.b.length ∧ z.b.length ≤ 1048576
def Dk.fil (d : Dk) (f : Int) : Fil := if f = 0 then d.x else d.y
def Dk.put (d : Dk) (f : Int) (z : Fil) : Dk := if f = 0 then ⟨z, d.y⟩ else if f = 1 then ⟨d.x, z⟩ else d
def hasF (f : Int) : Prop := f = 0 ∨ f = 1
instance (f : Int) : Decidable (hasF f) := by unfold hasF; infer_instance
def Dk.bytes (d : Dk) (f : Int) : List UInt8 := if hasF f then (d.fil f).b else []
structure Dsk (e T : TypeId) (w : World) (g : Nat) (d : Dk) (vx vy : Value) : Prop where
 hp : w.heap[g]? = some (.cells #[vx, .int .i64 (d.x.n : Int), vy, .int .i64 (d.y.n : Int)] T (0, 0))
 ox : w.ownsRow (g + 1) e 1 vx d.x.b.length (b8s d.x.b)
 oy : w.ownsRow (g + 1) e 1 vy d.y.b.length (b8s d.y.b)
 ne : ∀ k, vx.ownBlock = some k → vy.ownBlock ≠ some k
 kx : d.x.ok
 ky : d.y.ok
def foot (g : Nat) (vx vy : Value) : List Nat := g :: (blk vx ++ blk vy)
theorem mem_blk_iff {v : Value} {k : Nat} : k ∈ blk v ↔ v.ownBlock = some k := by
 unfold blk
 split
 ·rename_i h; rw [h]; simp [eq_comm]
 ·rename_i h; rw [h]; simp
theorem newOr_iff {B : Nat} {S : List Nat} : ∀ {T : List Nat}, NewOr B S T ↔ ∀ t ∈ T, t ∈ S ∨ B ≤ t
 | [] => by simp [NewOr]
 | t :: T => by simp [NewOr, newOr_iff (T := T)]
section
variable {e T : TypeId} {w w' : World} {g : Nat} {d : Dk} {vx vy v' : Value}
theorem Dsk.bx (h : Dsk e T w g d vx vy) {k : Nat} (hk : vx.ownBlock = some k) : g < k ∧ k < w.heap.size := by
 refine ⟨?_, (World.ownsRow.lt h.ox k hk).2⟩
 rcases h.ox.2 with ⟨rfl, _⟩ | ⟨g', cap, cur, rfl, hb, _⟩
 ·cases hk
 ·obtain rfl : g' = k := by simpa [Value.ownBlock] using hk
  omega
theorem Dsk.by_ (h : Dsk e T w g d vx vy) {k : Nat} (hk : vy.ownBlock = some k) : g < k ∧ k < w.heap.size := by
 refine ⟨?_, (World.ownsRow.lt h.oy k hk).2⟩
 rcases h.oy.2 with ⟨rfl, _⟩ | ⟨g', cap, cur, rfl, hb, _⟩
 ·cases hk
 ·obtain rfl : g' = k := by simpa [Value.ownBlock] using hk
  omega
theorem Dsk.lt (h : Dsk e T w g d vx vy) : g < w.heap.size := (Array.getElem?_eq_some_iff.1 h.hp).1
theorem Dsk.mem (h : Dsk e T w g d vx vy) : ∀ s ∈ foot g vx vy, g ≤ s ∧ s < w.heap.size := by
 intro s hs
 have := h.lt
 rcases List.mem_cons.1 hs with rfl | hs
 ·exact ⟨Nat.le_refl _, h.lt⟩
 ·rcases List.mem_append.1 hs with hs | hs
  ·have := h.bx (mem_blk_iff.1 hs); omega
  ·have := h.by_ (mem_blk_iff.1 hs); omega
end
structure DskF (e T : TypeId) (w : World) (g : Nat) (d : Dk) (F : List Nat) : Prop where
 out : ∃ vx vy, Dsk e T w g d vx vy ∧ F = foot g vx vy
section
variable {e T : TypeId} {w w' : World} {g : Nat} {d : Dk} {F : List Nat}
theorem DskF.mem (h : DskF e T w g d F) : ∀ s ∈ F, g ≤ s ∧ s < w.heap.size := by
 obtain ⟨vx, vy, q, rfl⟩ := h.out
 exact q.mem
theorem DskF.lt (h : DskF e T w g d F) : g < w.heap.size := by
 obtain ⟨vx, vy, q, rfl⟩ := h.out
 exact q.lt
theorem DskF.ok (h : DskF e T w g d F) : d.x.ok ∧ d.y.ok := by
 obtain ⟨vx, vy, q, rfl⟩ := h.out
 exact ⟨q.kx, q.ky⟩
theorem DskF.chg {S : List Nat} (h : DskF e T w g d F) (c : Chg S w w') (hs : ∀ s ∈ F, s < w.heap.size → Off s S) : DskF e T w' g d F := by
 obtain ⟨vx, vy, q, rfl⟩ := h.out
 refine ⟨vx, vy, ⟨c.hp q.hp (hs g (by simp [foot]) q.lt), own_chg q.ox c fun k hk _ hl => hs k ?_ hl, own_chg q.oy c fun k hk _ hl => hs k ?_ hl, q.ne, q.kx, q.ky⟩, rfl⟩
 ·simp [foot, mem_blk_iff.2 hk]
 ·simp [foot, mem_blk_iff.2 hk]
end
theorem own_empty {w : World} {base e g : Nat} (h : w.heap[g]? = some (.cells #[] e (0, 0))) (hb : base ≤ g) : w.ownsRow base e 1 (.slice (some ⟨g, 0, none⟩) 0 0) 0 (b8s []) := ⟨rfl, .inr ⟨g, 0, #[], rfl, hb, h, Nat.le_refl _, by unfold maxLen; omega, rfl, rfl⟩⟩
theorem own_nil (w : World) (base e : Nat) : w.ownsRow base e 1 (.slice none 0 0) 0 (b8s []) := ⟨rfl, .inl ⟨rfl, rfl⟩⟩
def str (l : List UInt8) : ByteArray := ⟨l.toArray⟩
section
variable {P : Program} {w : World} {a : Act} {o : Oper}
theorem run_str (s t : TypeId) (x : Operand) (e : TypeId) (ho : o.op = .convert s t x) (hs : P.underlying s = some (.slice e)) (he : P.underlying e = some (.int .u8)) (ht : P.underlying t = some .string) (A : Option Addr) (n c : Nat) (l : List UInt8)
  (hx : a.eval x = .slice A n c) (hb : Byt w A n l) : (execOp a.eval o).run P w = .ok (.value (.string (str l))) w := by
 have key : (convert s t (.slice A n c)).run P w = .ok (.string (str l)) w := by
  rcases A with _ | ad
  ·have h0 : l = [] := by
    rcases l with _ | ⟨y, l⟩
    ·rfl
    ·obtain ⟨g, off, h, _⟩ := hb.2 (by have := hb.1; simp at this; omega)
     cases h
   subst h0
   exact run_convert_bytes_nil w s e hs he n c t ht
  ·obtain ⟨g, off, sp⟩ := ad
   have hcell : ∀ j (hj : j < l.length), w.cell? ((⟨g, off, sp⟩ : Addr).add j) = some (.int .u8 (l[j].toNat : Int)) := by
    intro j hj
    obtain ⟨g', off', h', hc⟩ := hb.2 (by have := hb.1; omega)
    injection h' with h'
    injection h' with h1 h2 h3
    subst h1 h2 h3
    rw [Addr.add_mid, hc j (by have := hb.1; omega)]
    simp [List.getD_eq_getElem?_getD, hj]
   have := run_convert_bytes_back (P := P) w s t e ⟨g, off, sp⟩ c l hs he ht hcell
   rw [hb.1] at this
   exact this
 unfold execOp
 simp only [ho, hx, Sem.run_bind, key, Result.andThen_ok, Sem.run_pure]
theorem run_mark (t : TypeId) (x : Operand) (e : TypeId) (ho : o.op = .convert t t x) (ht : P.underlying t = some (.slice e)) (he : P.underlying e = some (.int .u8)) (g n c : Nat) (cs : Array Value) (hx : a.eval x = .slice (some ⟨g, 0, none⟩) n c)
  (hg : w.heap[g]? = some (.cells cs e (0, 0))) : ∃ v1 w1, (execOp a.eval o).run P w = .ok (.value v1) w1 ∧ v1 = .slice (some ⟨g, 0, none⟩) n c ∧ w1.heap[g]? = some (.cells cs e (cs.size, cs.size + 1)) ∧ Chg [g] w w1 := by
 have hlt := (Array.getElem?_eq_some_iff.1 hg).1
 have hsh : w.shape? g = some (e, cs.size) := by
  unfold World.shape?
  rw [hg]
 have key : (convert t t (.slice (some ⟨g, 0, none⟩) n c)).run P w = .ok (.slice (some ⟨g, 0, none⟩) n c) (w.freeze ⟨g, cs.size, none⟩ 1) := by
  simp [convert, run_underlying ht, run_underlying he, markStringish, hsh]
 refine ⟨_, w.freeze ⟨g, cs.size, none⟩ 1, ?_, rfl, ?_, ?_⟩
 ·unfold execOp
  simp only [ho, hx, Sem.run_bind, key, Result.andThen_ok, Sem.run_pure]
 ·unfold World.freeze
  rw [if_neg (by decide)]
  show (w.heap.modify g _)[g]? = _
  rw [Array.getElem?_modify]
  simp [hg]
 ·unfold World.freeze
  rw [if_neg (by decide)]
  refine ⟨rfl, rfl, rfl, by simp, fun k hk ho => ?_⟩
  show (w.heap.modify g _)[k]? = _
  rw [Array.getElem?_modify, if_neg (fun h => ho.1 h.symm)]
theorem run_op_cut_to (t : TypeId) (x z : Operand) (ho : o.op = .slice t x none (some z) none) (e : TypeId) (ht : P.underlying t = some (.slice e)) (hsz : (P.info? e).map (·.size) = some 1) (A : Option Addr) (n c h : Nat)
  (hx : a.eval x = .slice A n c) (hz : a.eval z = .int .i64 (h : Int)) (hh : h ≤ n) (hnc : n ≤ c) : (execOp a.eval o).run P w = .ok (.value (.slice (cutA A c 0) h c)) w := by
 unfold execOp
 simp only [ho, hx, hz, Option.map_some, Option.map_none, Sem.run_bind, run_cut_to t e ht hsz A n c h hh hnc, Result.andThen_ok, Sem.run_pure]
theorem byt_to {A : Option Addr} {n c : Nat} {l : List UInt8} (h : Byt w A n l) (k : Nat) (hk : k ≤ n) (hnc : n ≤ c) : Byt w (cutA A c 0) k (l.take k) := by
 have := h.cut 0 k (by omega) hk hnc
 simpa using this
theorem own_le {base base' sz n : Nat} {e : TypeId} {v : Value} {xs : List Value} (h : w.ownsRow base e sz v n xs) (hb : base' ≤ base) : w.ownsRow base' e sz v n xs :=
 ⟨h.1, h.2.elim Or.inl (fun ⟨g, cap, cur, hv, hg, r⟩ => Or.inr ⟨g, cap, cur, hv, Nat.le_trans hb hg, r⟩)⟩
theorem byt_row {g : Nat} {t : TypeId} {fr : Nat × Nat} (l : List UInt8) (h : w.heap[g]? = some (.cells (b8s l).toArray t fr)) : Byt w (some ⟨g, 0, none⟩) l.length l := ⟨rfl, fun _ => ⟨g, 0, rfl, fun j hj => by rw [Nat.zero_add]; exact cell_b8s h hj⟩⟩
theorem byt_sl {A : Option Addr} {n : Nat} {l : List UInt8} (h : Byt w A n l) : Sl w A n 1 (b8s l) := ⟨by rw [b8s_length, h.1, Nat.mul_one], fun hn => by
 have hp : 0 < n := by
  rcases l with _ | ⟨y, l⟩
  ·exact absurd rfl hn
  ·have := h.1; simp at this; omega
 obtain ⟨g, off, e, hc⟩ := h.2 hp
 refine ⟨g, off, e, fun j u hu => ?_⟩
 have hj : j < l.length := by
  have := (List.getElem?_eq_some_iff.1 hu).1
  simpa [b8s_length] using this
 rw [b8s_get l j hj] at hu
 injection hu with hu
 subst hu
 exact hc j (by have := h.1; omega)⟩
theorem byt_chg {S : List Nat} {w' : World} {A : Option Addr} {n : Nat} {l : List UInt8} (h : Byt w A n l) (c : Chg S w w') (ho : ∀ g off, A = some ⟨g, off, none⟩ → g < w.heap.size → Off g S) : Byt w' A n l := ⟨h.1, fun hp => by
 obtain ⟨g, off, e, hc⟩ := h.2 hp
 have hlt : g < w.heap.size := World.block_lt_of_cell? w ⟨g, off + 0, none⟩ (hc 0 hp)
 exact ⟨g, off, e, fun j hj => c.cell (hc j hj) (ho g off e hlt)⟩⟩
end
end Mur
namespace Mur
open Go Go.RowKit Wk
section
set_option linter.unusedSimpArgs false
variable {P : Program} {w : World} {a : Act} {o : Oper}
theorem str_toList (l : List UInt8) : (str l).toList = l := by rw [Go.ByteArray.toList_eq]; simp [str]
theorem streq (t ty : TypeId) (x y : Operand) (ho : o.op = .binOp .eql t x y ty) (l r : List UInt8) (hx : a.eval x = .string (str l)) (hy : a.eval y = .string (str r)) : (execOp a.eval o).run P w = .ok (.value (.bool (decide (l = r)))) w := by
 unfold execOp
 simp only [ho, hx, hy]
 simp only [eqGuard, binOp_string_eql, binOp_string_neq, Sem.run_bind, Sem.run_pure, Result.andThen_ok, str_toList]
 by_cases h : l = r <;> simp [h]
theorem strne (t ty : TypeId) (x y : Operand) (ho : o.op = .binOp .neq t x y ty) (l r : List UInt8) (hx : a.eval x = .string (str l)) (hy : a.eval y = .string (str r)) : (execOp a.eval o).run P w = .ok (.value (.bool (decide (l ≠ r)))) w := by
 unfold execOp
 simp only [ho, hx, hy]
 simp only [eqGuard, binOp_string_eql, binOp_string_neq, Sem.run_bind, Sem.run_pure, Result.andThen_ok, str_toList]
 by_cases h : l = r <;> simp [h]
end
end Mur
namespace Mur
open Go Go.RowKit Wk
theorem b8s_set (l : List UInt8) (i : Nat) (x : UInt8) : (b8s l).toArray.setIfInBounds i (.int .u8 (x.toNat : Int)) = (b8s (l.set i x)).toArray := by
 rw [List.setIfInBounds_toArray]
 congr 1
 simp [b8s, List.map_set]
section
variable {P : Program} {w : World} {a : Act} {o : Oper}
theorem blk_cell {g : Nat} {t : TypeId} {fr : Nat × Nat} (l : List UInt8) (h : w.heap[g]? = some (.cells (b8s l).toArray t fr)) (j : Nat) (hj : j < l.length) : w.cell? ⟨g, 0 + j * 1, none⟩ = some (.int .u8 (((l.getD j 0).toNat : Nat) : Int)) := by
 rw [Nat.zero_add, Nat.mul_one]
 exact cell_b8s h hj
theorem byt_cell {g off n : Nat} {l : List UInt8} (h : Byt w (some ⟨g, off, none⟩) n l) (j : Nat) (hj : j < n) : w.cell? ⟨g, off + j * 1, none⟩ = some (.int .u8 (((l.getD j 0).toNat : Nat) : Int)) := by
 obtain ⟨g', off', e, hc⟩ := h.2 (by omega)
 injection e with e
 injection e with e1 e2
 subst e1 e2
 rw [Nat.mul_one]
 exact hc j hj
theorem byt_blk {g n : Nat} {t : TypeId} {fr : Nat × Nat} (l : List UInt8) (hl : l.length = n) (h : w.heap[g]? = some (.cells (b8s l).toArray t fr)) : Byt w (some ⟨g, 0, none⟩) n l := hl ▸ byt_row l h
theorem storeAll (ty : TypeId) (x y : Operand) (ho : o.op = .store ty x y) (g : Nat) (hx : a.eval x = .pointer (some ⟨g, 0, none⟩)) (l : List UInt8) (n : Nat) (hl : l.length = n) (hy : a.eval y = .agg (b8s l).toArray) (hi : (P.info? ty).map (·.size) = some n)
  (t : TypeId) (cs : Array Value) (hg : w.heap[g]? = some (.cells cs t (0, 0))) (hn : cs.size = n) :
  ∃ w', (execOp a.eval o).run P w = .ok .skip w' ∧ w'.heap[g]? = some (.cells (b8s l).toArray t (0, 0)) ∧ Chg [g] w w' := by
 obtain ⟨w', h1, h2, h3⟩ := storeR (P := P) ty x y ho g 0 hx (b8s l) hy (by rw [hi, b8s_length, hl]) (b8s_one l) t cs.toList (by simpa using hg) (by rw [b8s_length, hl, Array.length_toList, hn]; omega)
 refine ⟨w', h1, ?_, h3⟩
 rw [h2]
 congr 2
 have hdrop : cs.toList.drop (0 + (b8s l).length) = [] := List.drop_of_length_le (by rw [b8s_length, hl, Array.length_toList, hn]; omega)
 unfold splice
 rw [hdrop]
 simp
theorem loadAll (ty : TypeId) (x : Operand) (ho : o.op = .load ty x) (d : TypeDesc) (hu : P.underlying ty = some d) (hd : d.isRow = true) (g : Nat) (hx : a.eval x = .pointer (some ⟨g, 0, none⟩)) (l : List UInt8) (n : Nat) (hl : l.length = n)
  (hi : (P.info? ty).map (·.size) = some n) (t : TypeId) (fr : Nat × Nat) (hg : w.heap[g]? = some (.cells (b8s l).toArray t fr)) : (execOp a.eval o).run P w = .ok (.value (.agg (b8s l).toArray)) w :=
 loadR ty x ho d hu hd g 0 hx (b8s l) (by rw [hi, b8s_length, hl]) (range_row hg)
theorem arr_slice (t e : TypeId) (x : Operand) (n : Nat) (ho : o.op = .slice t x none none none) (ht : P.underlying t = some (.array n e)) (hsz : (P.info? e).map (·.size) = some 1) (g : Nat) (hx : a.eval x = .pointer (some ⟨g, 0, none⟩)) :
  (execOp a.eval o).run P w = .ok (.value (.slice (some ⟨g, 0, none⟩) n n)) w := by
 obtain ⟨i, hi, hs⟩ := Option.map_eq_some_iff.1 hsz
 unfold execOp
 simp only [ho, hx, Option.map_none]
 have e0 : (⟨g, 0, none⟩ : Addr).add 0 = ⟨g, 0, none⟩ := Addr.add_mid g 0 0
 simp [Instr.sliceAt, Instr.slice, Instr.sureAddr, run_underlying ht, Instr.sliceBounds, Go.sizeOf, typeInfo, hi, e0]
theorem bits_xor_u8 (a b : UInt8) : bits .xor .u8 ((a.toNat : Nat) : Int) ((b.toNat : Nat) : Int) = (((a ^^^ b).toNat : Nat) : Int) := by
 show IntKind.u8.wrap ((BitVec.ofInt 8 ((a.toNat : Nat) : Int) ^^^ BitVec.ofInt 8 ((b.toNat : Nat) : Int)).toNat : Int) = _
 rw [BitVec.ofInt_natCast, BitVec.ofInt_natCast, UInt8.toNat, BitVec.ofNat_toNat, BitVec.setWidth_eq, UInt8.toNat, BitVec.ofNat_toNat, BitVec.setWidth_eq]
 show ((((a ^^^ b).toNat : Nat) : Int)) % 256 = _
 have := (a ^^^ b).toNat_lt
 omega
theorem xor8 (t ty : TypeId) (x y : Operand) (ho : o.op = .binOp .xor t x y ty) (b c : UInt8) (hx : a.eval x = .int .u8 ((b.toNat : Nat) : Int)) (hy : a.eval y = .int .u8 ((c.toNat : Nat) : Int)) : (execOp a.eval o).run P w = .ok (.value (.int .u8 (((b ^^^ c).toNat : Nat) : Int))) w := by
 unfold execOp
 simp only [ho, hx, hy]
 have key : (binOp .xor t (.int .u8 ((b.toNat : Nat) : Int)) (.int .u8 ((c.toNat : Nat) : Int))).run P w = .ok (.int .u8 (bits .xor .u8 ((b.toNat : Nat) : Int) ((c.toNat : Nat) : Int))) w := rfl
 have hg : (eqGuard .xor t x y (.int .u8 ((b.toNat : Nat) : Int)) (.int .u8 ((c.toNat : Nat) : Int))).run P w = .ok () w := rfl
 rw [bits_xor_u8] at key
 simp only [Sem.run_bind, Sem.run_pure, hg, Result.andThen_ok, key]
theorem store8 (ty : TypeId) (x y : Operand) (ho : o.op = .store ty x y) (hi : (P.info? ty).map (·.size) = some 1) (g i : Nat) (hx : a.eval x = .pointer (some ⟨g, 0 + i * 1, none⟩)) (b : UInt8) (hy : a.eval y = .int .u8 ((b.toNat : Nat) : Int))
  (t : TypeId) (l : List UInt8) (hg : w.heap[g]? = some (.cells (b8s l).toArray t (0, 0))) (hlt : i < l.length) :
  ∃ w', (execOp a.eval o).run P w = .ok .skip w' ∧ w'.heap[g]? = some (.cells (b8s (l.set i b)).toArray t (0, 0)) ∧ Chg [g] w w' := by
 rw [Nat.zero_add, Nat.mul_one] at hx
 obtain ⟨w', h1, h2, h3⟩ := store1 (P := P) ty x y ho hi g i hx _ hy rfl t _ hg (by simpa [b8s_length] using hlt)
 exact ⟨w', h1, by rw [h2, b8s_set], h3⟩
theorem copy8 (d s : Operand) (dT sT : TypeId) (ho : o.op = .call { callee := .builtin .copy, args := #[d, s], argTypes := #[dT, sT] }) (e : TypeId) (hu : P.underlying dT = some (.slice e)) (hsz : (P.info? e).map (·.size) = some 1)
  (g D c : Nat) (hd : a.eval d = .slice (some ⟨g, 0, none⟩) D c) (A : Option Addr) (n c2 : Nat) (hs : a.eval s = .slice A n c2) (t : TypeId) (l r : List UInt8) (hg : w.heap[g]? = some (.cells (b8s l).toArray t (0, 0))) (hD : l.length = D) (hb : Byt w A n r) (hn : n ≤ D) (hA : A = none → c2 = 0) :
  ∃ v w', (execOp a.eval o).run P w = .ok (.value v) w' ∧ v = .int .i64 ((n : Nat) : Int) ∧ w'.heap[g]? = some (.cells (b8s (r ++ l.drop n)).toArray t (0, 0)) ∧ Chg [g] w w' := by
 have hrn := hb.1
 rcases A with _ | ad
 ·have h0 : r = [] := by
   rcases r with _ | ⟨y, r⟩
   ·rfl
   ·obtain ⟨g, off, h, _⟩ := hb.2 (by have := hb.1; simp at this; omega)
    cases h
  subst h0
  obtain rfl : n = 0 := by simpa using hrn.symm
  obtain rfl := hA rfl
  refine ⟨_, w, ?_, rfl, by simpa using hg, (Chg.refl w).more (by simp)⟩
  have := run_copy_nil (P := P) w dT sT o.type e ⟨g, 0, none⟩ D c hu (by rw [hsz]; rfl)
  unfold execOp
  simp only [ho, resolve, invoke, builtin, Sem.run_bind, Sem.run_pure, Result.andThen_ok, List.map_toArray, List.map_cons, List.map_nil, hs, hd, this, goInt]
  rfl
 ·have hsrc : ∀ j v, (b8s r)[j]? = some v → w.cell? (ad.add j) = some v := by
   intro j v hv
   have hj : j < r.length := by
    have := (List.getElem?_eq_some_iff.1 hv).1
    simpa [b8s_length] using this
   obtain ⟨g', off, e', hc⟩ := hb.2 (by omega)
   injection e' with e'
   subst e'
   rw [Addr.add_mid]
   rw [b8s_get r j hj] at hv
   injection hv with hv
   subst hv
   exact hc j (by omega)
  have hrun := run_copy_row (P := P) w dT sT o.type e g 0 D c ad n c2 (b8s l).toArray t (b8s r) hu hsz hg (by rw [b8s_length, hrn]; exact (Nat.min_eq_left hn).symm) hsrc (by simp [b8s_length]; omega) (b8s_one r)
  have hb8 : (b8s l).take 0 ++ b8s r ++ (b8s l).drop (0 + (b8s r).length) = b8s (r ++ l.drop n) := by
   rw [b8s_append, b8s_length, hrn]
   simp [b8s, List.map_drop]
  refine ⟨.int .i64 ((n : Nat) : Int), w.setRow g (b8s (r ++ l.drop n)).toArray, ?_, rfl, ?_, ?_⟩
  ·unfold execOp
   simp only [ho, resolve, invoke, builtin, Sem.run_bind, Sem.run_pure, Result.andThen_ok, List.map_toArray, List.map_cons, List.map_nil, hs, hd, hrun, goInt, b8s_length, hrn]
   rw [b8s_length, hrn] at hb8
   rw [hb8]
  ·exact setRow_heap w g _ _ t _ hg
  ·refine ⟨rfl, rfl, rfl, by simp [World.setRow], fun k hk ho => ?_⟩
   exact setRow_other _ _ _ _ (fun h => ho.1 h)
structure Own8 (w : World) (base e : Nat) (A : Option Addr) (n c : Nat) (l : List UInt8) : Prop where
 own : w.ownsRow base e 1 (.slice A n c) n (b8s l)
 nc : n ≤ c
 cm : c ≤ maxLen
 nil : A = none → c = 0
 byt : Byt w A n l
 at_ : ∀ g off, A = some ⟨g, off, none⟩ → base ≤ g ∧ g < w.heap.size
 lt : ∀ k, (Value.slice A n c).ownBlock = some k → base ≤ k ∧ k < w.heap.size
theorem own8 {base e n : Nat} {A : Option Addr} {c : Nat} {l : List UInt8} (h : w.ownsRow base e 1 (.slice A n c) n (b8s l)) : Own8 w base e A n c l := by
 obtain ⟨A1, c1, e1, h1, h2, h3⟩ := own_byt h
 injection e1 with e1 _ e2
 subst e1 e2
 obtain ⟨A2, c2, e3, _, _, h4, _, h5⟩ := own_sl h
 injection e3 with e3 _ e4
 subst e3 e4
 exact ⟨h, h1, h2, h4, h3, h5, World.ownsRow.lt h⟩
theorem append8 (s x : Operand) (t e : TypeId) (ho : o.op = .call { callee := .builtin .append, args := #[s, x], argTypes := #[t, t] }) (ht : P.underlying t = some (.slice e)) (hinfo : (P.info? e).map (fun i => (i.zero, i.size, i.bytes)) = some (some (.int .u8 0), 1, 1))
  (base : Nat) (A0 : Option Addr) (n c0 : Nat) (xs : List UInt8) (A : Option Addr) (m c : Nat) (ys : List UInt8) (hs : a.eval s = .slice A0 n c0) (hx : a.eval x = .slice A m c) (HO : w.ownsRow base e 1 (.slice A0 n c0) n (b8s xs)) (HR : Byt w A m ys) (hA : A = none → c = 0)
  (hbase : base ≤ w.heap.size) (hl : n + m ≤ 140737488355328) (k : Nat) (hk : n + m = k) (zs : List UInt8) (hz : xs ++ ys = zs) :
  ∃ v1 w1, (execOp a.eval o).run P w = .ok (.value v1) w1 ∧ ∃ A1 c1, v1 = .slice A1 k c1 ∧ Own8 w1 base e A1 k c1 zs ∧ Chg (blk (.slice A0 n c0)) w w1 ∧ (∀ q, (Value.slice A1 k c1).ownBlock = some q → (Value.slice A0 n c0).ownBlock = some q ∨ q = w.heap.size) := by
 subst hk hz
 obtain ⟨v1, w1, h1, h2, h3, h4⟩ := append_run (P := P) s x t e ho ht (.int .u8 0) 1 1 hinfo rfl (by omega) base (.slice A0 n c0) n (b8s xs) A m c (b8s ys) hs hx HO (byt_sl HR) hA (b8s_one ys) hbase (by unfold maxLen; omega) (by omega)
 rw [← b8s_append] at h2
 obtain ⟨A1, c1, rfl, _⟩ := own_byt h2
 refine ⟨_, w1, h1, A1, c1, rfl, own8 h2, h3, fun q hq => ?_⟩
 rcases h4 with h4 | h4
 ·exact .inl (h4 ▸ hq)
 ·rw [h4] at hq
  exact .inr (Option.some.inj hq).symm
theorem Own8.chg {w' : World} {base e n c : Nat} {A : Option Addr} {l : List UInt8} {S : List Nat} (h : Own8 w base e A n c l) (ch : Chg S w w') (ho : ∀ g, base ≤ g → g < w.heap.size → Off g S) : Own8 w' base e A n c l :=
 own8 (own_chg h.own ch fun g _ h1 h2 => ho g h1 h2)
theorem own8_empty {base e g : Nat} (h : w.heap[g]? = some (.cells #[] e (0, 0))) (hb : base ≤ g) : Own8 w base e (some ⟨g, 0, none⟩) 0 0 [] := own8 (own_empty h hb)
theorem own8_nil (w : World) (base e : Nat) : Own8 w base e none 0 0 [] := own8 (own_nil w base e)
end
structure Seg where
 A : Option Addr
 n : Nat
 c : Nat
 l : List UInt8
def Seg.v (s : Seg) : Value := .slice s.A s.n s.c
structure SegOk (w : World) (s : Seg) : Prop where
 nc : s.n ≤ s.c
 nil : s.A = none → s.c = 0
 byt : Byt w s.A s.n s.l
 cm : s.c ≤ maxLen
structure Segs (w : World) (A : Option Addr) (n : Nat) (L : List Seg) : Prop where
 len : L.length = n
 ok : ∀ s ∈ L, SegOk w s
 cells : 0 < n → ∃ g off, A = some ⟨g, off, none⟩ ∧ ∀ i s, L[i]? = some s → w.cell? ⟨g, off + i, none⟩ = some s.v
theorem SegOk.chg {w w' : World} {s : Seg} (h : SegOk w s) (c : Chg [] w w') : SegOk w' s := ⟨h.1, h.2, byt_chg h.3 c fun _ _ _ _ => trivial, h.4⟩
theorem Segs.chg {w w' : World} {A : Option Addr} {n : Nat} {L : List Seg} (h : Segs w A n L) (c : Chg [] w w') : Segs w' A n L :=
 ⟨h.1, fun s hs => (h.2 s hs).chg c, fun hn => by
  obtain ⟨g, off, e, hc⟩ := h.3 hn
  exact ⟨g, off, e, fun i s hi => c.cell (hc i s hi) trivial⟩⟩
def flat (L : List Seg) : List UInt8 := L.flatMap (·.l)
theorem flat_take {L : List Seg} {i : Nat} {s : Seg} (h : L[i]? = some s) : flat (L.take (i + 1)) = flat (L.take i) ++ s.l := by
 have hi : i < L.length := (List.getElem?_eq_some_iff.1 h).1
 have he : L[i] = s := (List.getElem?_eq_some_iff.1 h).2
 rw [List.take_succ_eq_append_getElem hi, he]
 simp [flat]
theorem flat_take_le {L : List Seg} (i : Nat) : (flat (L.take i)).length ≤ (flat L).length := by
 have : flat L = flat (L.take i) ++ flat (L.drop i) := by rw [flat, flat, flat, ← List.flatMap_append, List.take_append_drop]
 rw [this, List.length_append]
 omega
theorem flat_all {L : List Seg} {n : Nat} (h : L.length = n) : flat (L.take n) = flat L := by rw [List.take_of_length_le (by omega)]
theorem Segs.at {w : World} {A : Option Addr} {n : Nat} {L : List Seg} (h : Segs w A n L) {k : Nat} (hk : k < n) : ∃ g off As ns cs ls, A = some ⟨g, off, none⟩ ∧ g < w.heap.size ∧ w.cell? ⟨g, off + k * 1, none⟩ = some (.slice As ns cs) ∧ Byt w As ns ls ∧ ns ≤ cs ∧ cs ≤ maxLen ∧ (As = none → cs = 0) ∧
  flat (L.take (k + 1)) = flat (L.take k) ++ ls ∧ (flat (L.take k)).length + ns ≤ (flat L).length := by
 obtain ⟨g, off, rfl, hc⟩ := h.3 (by omega)
 obtain ⟨x, hx⟩ : ∃ x, L[k]? = some x := ⟨_, List.getElem?_eq_getElem (by have := h.1; omega)⟩
 have hok := h.2 x (List.mem_of_getElem? hx)
 have q := hc k x hx
 have hf := flat_take hx
 have hle := flat_take_le (L := L) (k + 1)
 have hl := hok.byt.1
 rw [hf, List.length_append, hl] at hle
 exact ⟨g, off, x.A, x.n, x.c, x.l, rfl, World.block_lt_of_cell? w ⟨g, off + k, none⟩ q, by rw [Nat.mul_one]; exact q, hok.byt, hok.nc, hok.cm, hok.nil, hf, hle⟩
end Mur
namespace Go
open Wk Mur
theorem oA {w w' : World} {S : List Nat} {base e n c : Nat} {A : Option Addr} {l : List UInt8} (h : Own8 w base e A n c l) (ch : Chg S w w') (ho : ∀ g, (Value.slice A n c).ownBlock = some g → base ≤ g → g < w.heap.size → Off g S := by exact fun _ _ _ _ => trivial) : Own8 w' base e A n c l := own8 (own_chg h.own ch ho)
theorem oB {w w' : World} {s : Nat} {base e n c : Nat} {A : Option Addr} {l : List UInt8} (h : Own8 w base e A n c l) (ch : Chg [s] w w') {b z : Nat} (hl : ∀ k, (Value.slice A n c).ownBlock = some k → b ≤ k ∧ k < z) (ho : ∀ k, b ≤ k → k < z → k ≠ s := by intro _ _ _; omega) : Own8 w' base e A n c l := own8 (own_chg h.own ch fun q e _ _ => ⟨ho q (hl q e).1 (hl q e).2, trivial⟩)
section
variable {P : Program} {a : Act} {o : Oper} {w : World}
theorem ap8 {base e n c0 : Nat} {A0 A : Option Addr} {xs ys : List UInt8} (m c : Nat) (HO : w.ownsRow base e 1 (.slice A0 n c0) n (b8s xs)) (HR : Byt w A m ys) (hA : A = none → c = 0) (k : Nat) (zs : List UInt8) {s x : Operand} {t : TypeId} (ho : o.op = .call { callee := .builtin .append, args := #[s, x], argTypes := #[t, t] } := by exact rfl) (ht : P.underlying t = some (.slice e) := by kernel_rfl) (hinfo : (P.info? e).map (fun i => (i.zero, i.size, i.bytes)) = some (some (.int .u8 0), 1, 1) := by kernel_rfl)
  (hs : a.eval s = .slice A0 n c0 := by kernel_rfl) (hx : a.eval x = .slice A m c := by kernel_rfl) (hbase : base ≤ w.heap.size := by omega) (hl : n + m ≤ 140737488355328 := by omega) (hk : n + m = k := by omega) (hz : xs ++ ys = zs := by exact rfl) :
  ∃ v1 w1, (execOp a.eval o).run P w = .ok (.value v1) w1 ∧ ∃ A1 c1, v1 = .slice A1 k c1 ∧ Own8 w1 base e A1 k c1 zs ∧ Chg (blk (.slice A0 n c0)) w w1 ∧ (∀ q, (Value.slice A1 k c1).ownBlock = some q → (Value.slice A0 n c0).ownBlock = some q ∨ q = w.heap.size) := append8 s x t e ho ht hinfo base A0 n c0 xs A m c ys hs hx HO HR hA hbase hl k hk zs hz
theorem sC {n : Nat} (l : List UInt8) (hl : l.length = n) {g : Nat} {t : TypeId} {cs : Array Value} (hg : w.heap[g]? = some (.cells cs t (0, 0))) {ty : TypeId} {x y : Operand} (ho : o.op = .store ty x y := by exact rfl) (hx : a.eval x = .pointer (some ⟨g, 0, none⟩) := by kernel_rfl) (hy : a.eval y = .agg (b8s l).toArray := by kernel_rfl) (hi : (P.info? ty).map (·.size) = some n := by kernel_rfl) (hn : cs.size = n := by exact rfl) :
  ∃ w', (execOp a.eval o).run P w = .ok .skip w' ∧ w'.heap[g]? = some (.cells (b8s l).toArray t (0, 0)) ∧ Chg [g] w w' := storeAll ty x y ho g hx l n hl hy hi t cs hg hn
theorem lB {n : Nat} (l : List UInt8) (hl : l.length = n) {g : Nat} {t : TypeId} {fr : Nat × Nat} (hg : w.heap[g]? = some (.cells (b8s l).toArray t fr)) {ty : TypeId} {x : Operand} (ho : o.op = .load ty x := by exact rfl) (hu : (match P.underlying ty with | some d => d.isRow | none => false) = true := by kernel_rfl) (hx : a.eval x = .pointer (some ⟨g, 0, none⟩) := by kernel_rfl) (hi : (P.info? ty).map (·.size) = some n := by kernel_rfl) : (execOp a.eval o).run P w = .ok (.value (.agg (b8s l).toArray)) w := by
 split at hu
 ·rename_i d hd
  exact loadAll ty x ho d hd hu g hx l n hl hi t fr hg
 ·cases hu
end
end Go
namespace Mur
open Go Go.RowKit Wk
def hkey0 (s : List UInt8) : List UInt8 := if 64 < s.length then sha s else s
def hkey (s : List UInt8) : List UInt8 := hkey0 s ++ List.replicate (64 - (hkey0 s).length) 0
def xorl (c : UInt8) (l : List UInt8) : List UInt8 := l.map (· ^^^ c)
def hmac (s b : List UInt8) : List UInt8 := sha (xorl 92 (hkey s) ++ sha (xorl 54 (hkey s) ++ b))
theorem sha_len (b : List UInt8) : (sha b).length = 32 := Go.Proofs.YtgbadghjnpbiaaaGreatDoor.sha_length b
theorem xorl_length (c : UInt8) (l : List UInt8) : (xorl c l).length = l.length := by simp [xorl]
theorem hmac_length (s b : List UInt8) : (hmac s b).length = 32 := sha_len _
def xorTo (c : UInt8) (k : List UInt8) (i : Nat) : List UInt8 := xorl c (k.take i) ++ k.drop i
theorem xorTo_zero (c : UInt8) (k : List UInt8) : xorTo c k 0 = k := by simp [xorTo, xorl]
theorem xorTo_all (c : UInt8) (k : List UInt8) {n : Nat} (h : k.length = n) : xorTo c k n = xorl c k := by
 subst h
 simp [xorTo]
theorem xorTo_length (c : UInt8) (k : List UInt8) (i : Nat) : (xorTo c k i).length = k.length := by
 simp only [xorTo, List.length_append, xorl_length, List.length_take, List.length_drop]
 omega
theorem xorTo_getD (c : UInt8) (k : List UInt8) (i : Nat) (h : i < k.length) : (xorTo c k i).getD i 0 = k.getD i 0 := by
 have h1 : (xorl c (k.take i)).length = i := by rw [xorl_length, List.length_take]; omega
 simp only [xorTo, List.getD_eq_getElem?_getD]
 rw [List.getElem?_append_right (by omega), h1, List.getElem?_drop]
 simp
theorem xorl_succ (c : UInt8) (k : List UInt8) (i : Nat) (h : i < k.length) : xorl c (k.take (i + 1)) = xorl c (k.take i) ++ [k.getD i 0 ^^^ c] := by
 rw [List.take_succ_eq_append_getElem h, xorl, List.map_append]
 simp [xorl, List.getD_eq_getElem?_getD, h]
theorem xorTo_set (c : UInt8) (k : List UInt8) (i : Nat) (h : i < k.length) : (xorTo c k i).set i (k.getD i 0 ^^^ c) = xorTo c k (i + 1) := by
 have h1 : (xorl c (k.take i)).length = i := by rw [xorl_length, List.length_take]; omega
 unfold xorTo
 rw [List.set_append_right _ _ (by omega), h1, Nat.sub_self, xorl_succ c k i h, List.drop_eq_getElem_cons h, List.set_cons_zero, List.append_assoc]
 rfl
end Mur
namespace Mur
theorem key_small {s : List UInt8} {n : Nat} (h : s.length = n) (hn : n ≤ 64) : s ++ (List.replicate 64 0).drop n = hkey s := by
 have h1 : hkey0 s = s := if_neg (by omega)
 unfold hkey
 rw [h1, List.drop_replicate, h]
theorem key_big {s d : List UInt8} (h : 64 < s.length) (hd : d = sha s) : d ++ (List.replicate 64 0).drop 32 = hkey s := by
 have h1 : hkey0 s = sha s := if_pos h
 unfold hkey
 rw [h1, hd, List.drop_replicate, sha_len]
end Mur
namespace Mur
open Go Go.RowKit Go.WideShapes Go.ChangeShapes
section
variable {H : Type} {enc : TypeId × Value → H} {P : Program} {W : World}
theorem leaf_byt {t e : TypeId} {v : Value} (ht : P.underlying t = some (.slice e)) (he : P.underlying e = some (.int .u8)) (hc : P.cellsOf e = 1) (h : Leaf enc P W 0 (fun _ => true) true t v) : ∃ A n c l, v = .slice A n c ∧ n ≤ c ∧ c ≤ maxLen ∧ (A = none → c = 0) ∧ Byt W A n l := by
 obtain ⟨m, y, hf⟩ := h
 rcases open_ints ht he hc hf with ⟨h0, _⟩ | ⟨a, len, cap, zs, h0, _, hlc, hcm, hlen, _, hcell, hwf⟩
 ·obtain rfl : v = .slice none 0 0 := by simpa using h0
  exact ⟨none, 0, 0, [], rfl, Nat.le_refl _, by unfold maxLen; omega, fun _ => rfl, Byt.nil _ _⟩
 ·obtain rfl : v = .slice (some a) len cap := by simpa using h0
  simp only [if_true] at hlen
  refine ⟨some a, len, cap, (zs.take len).map (fun z => UInt8.ofNat z.toNat), rfl, hlc, hcm, (fun h => by cases h), (by simp; omega), fun hp => ?_⟩
  obtain ⟨g, off, rfl, hc2⟩ := ints_at hcell (by omega)
  refine ⟨g, off, rfl, fun j hj => ?_⟩
  rw [hc2 j (by omega)]
  have hr := range_u8 hwf j
  have hjz : j < zs.length := by omega
  simp only [List.getElem?_eq_getElem hjz, Option.getD_some] at hr
  simp [List.getD_eq_getElem?_getD, hj, hjz]
  omega
theorem open_agg {t : TypeId} {ls : List TypeId} {W : World} {v : Value} {d : DataW H} {ps : List MemPlace} (D : Nat) (hu : (∃ n e, P.underlying t = some (.array n e)) ∨ ∃ fs, P.underlying t = some (.struct fs)) (hl : leafs P D t = some ls)
  (hval : ∃ r b0, Value.okWide P W r b0 t v) (h : DataW.Trod enc P W 0 (fun _ => true) true t v d ps) : ∃ cs, v = .agg cs ∧ All2 (Leaf enc P W 0 (fun _ => true) true) ls cs.toList := by
 obtain ⟨fuel, hf⟩ := h
 obtain ⟨r, b0, hok⟩ := hval
 obtain ⟨cs, rfl⟩ : ∃ cs, v = .agg cs := by
  unfold Value.okWide at hok
  rcases hu with ⟨n, e, hu⟩ | ⟨fs, hu⟩
  ·simp only [hu] at hok
   obtain ⟨cs, h1, _⟩ := hok
   exact ⟨cs, h1⟩
  ·simp only [hu] at hok
   obtain ⟨cs, h1, _⟩ := hok
   exact ⟨cs, h1⟩
 exact ⟨cs, rfl, leafs_ok D t ls hl _ _ _ hf⟩
theorem leaf_u8 {t : TypeId} {v : Value} (ht : P.underlying t = some (.int .u8)) {w : World} (h : Leaf enc P w 0 (fun _ => true) true t v) : ∃ b : UInt8, v = .int .u8 (b.toNat : Int) := by
 obtain ⟨z, rfl, hwf⟩ := leaf_int ht h
 have h1 : IntKind.u8.min = 0 := by decide
 have h2 : IntKind.u8.max = 255 := by decide
 simp only [Lit.wf, h1, h2, Bool.and_eq_true, decide_eq_true_eq] at hwf
 exact ⟨UInt8.ofNat z.toNat, by simp; omega⟩
theorem leaf_u8s {t : TypeId} (ht : P.underlying t = some (.int .u8)) {w : World} : ∀ (n : Nat) (cs : List Value), All2 (Leaf enc P w 0 (fun _ => true) true) (List.replicate n t) cs → ∃ l : List UInt8, l.length = n ∧ cs = b8s l
 | 0, cs, h => by
  cases h
  exact ⟨[], rfl, rfl⟩
 | n + 1, cs, h => by
  rw [List.replicate_succ] at h
  rcases h with _ | ⟨h0, h⟩
  obtain ⟨b, rfl⟩ := leaf_u8 ht h0
  obtain ⟨l, h1, rfl⟩ := leaf_u8s ht n _ h
  exact ⟨b :: l, by simp [h1], rfl⟩
end
end Mur
namespace Go.Proofs.YtgbadghjnpbiaaaGreatDoor
end Go.Proofs.YtgbadghjnpbiaaaGreatDoor
namespace Mur
open Go Go.RowKit
def beN (l : List UInt8) : Nat := l.foldl (fun n b => n * 256 + b.toNat) 0
theorem beN_snoc (l : List UInt8) (b : UInt8) : beN (l ++ [b]) = beN l * 256 + b.toNat := by simp [beN]
theorem beN_foldl : ∀ (l : List UInt8) (n : Nat), l.foldl (fun n b => n * 256 + b.toNat) n = n * 256 ^ l.length + beN l
 | [], n => by simp [beN]
 | b :: l, n => by
  rw [List.foldl_cons, beN_foldl l, List.length_cons, Nat.pow_succ]
  have h : beN (b :: l) = b.toNat * 256 ^ l.length + beN l := by
   show l.foldl _ (0 * 256 + b.toNat) = _
   rw [beN_foldl l, Nat.zero_mul, Nat.zero_add]
  rw [h, Nat.add_mul, Nat.mul_assoc, Nat.mul_comm 256, Nat.add_assoc]
theorem beN_cons (b : UInt8) (l : List UInt8) : beN (b :: l) = b.toNat * 256 ^ l.length + beN l := by
 show l.foldl _ (0 * 256 + b.toNat) = _
 rw [beN_foldl l, Nat.zero_mul, Nat.zero_add]
theorem beN_lt : ∀ l : List UInt8, beN l < 256 ^ l.length
 | [] => by simp [beN]
 | b :: l => by
  rw [beN_cons, List.length_cons, Nat.pow_succ]
  have h1 := beN_lt l
  have h2 := b.toNat_lt
  have h3 : b.toNat * 256 ^ l.length ≤ 255 * 256 ^ l.length := Nat.mul_le_mul_right _ (by omega)
  omega
def digs (n : Nat) : List UInt8 := if _h : n = 0 then [] else digs (n / 256) ++ [UInt8.ofNat (n % 256)]
termination_by n
decreasing_by omega
theorem digs_zero : digs 0 = [] := by
 unfold digs
 rfl
theorem digs_pos {n : Nat} (h : n ≠ 0) : digs n = digs (n / 256) ++ [UInt8.ofNat (n % 256)] := by
 rw [digs, dif_neg h]
theorem beN_digs (n : Nat) : beN (digs n) = n := by
 induction n using Nat.strongRecOn with
 | _ n ih =>
  by_cases h : n = 0
  ·subst h
   rw [digs_zero]
   rfl
  ·rw [digs_pos h, beN_snoc, ih (n / 256) (by omega)]
   have : (UInt8.ofNat (n % 256)).toNat = n % 256 := by simp
   rw [this]
   omega
theorem digs_len {n k : Nat} (h : n < 256 ^ k) : (digs n).length ≤ k := by
 induction k generalizing n with
 | zero =>
  obtain rfl : n = 0 := by simp at h; exact h
  rw [digs_zero]
  exact Nat.le_refl 0
 | succ k ih =>
  by_cases h0 : n = 0
  ·subst h0
   rw [digs_zero]
   exact Nat.zero_le _
  ·rw [digs_pos h0, List.length_append]
   have := ih (n := n / 256) (by rw [Nat.pow_succ] at h; omega)
   simp
   omega
theorem digs_head (n : Nat) : (digs n).head? ≠ some 0 := by
 induction n using Nat.strongRecOn with
 | _ n ih =>
  by_cases h : n = 0
  ·subst h
   rw [digs_zero]
   simp
  ·rw [digs_pos h]
   by_cases h1 : n / 256 = 0
   ·rw [h1, digs_zero]
    intro e
    simp at e
    have := congrArg UInt8.toNat e
    simp at this
    omega
   ·have h2 : digs (n / 256) ≠ [] := fun e => h1 (by
     have := beN_digs (n / 256)
     rw [e] at this
     exact this.symm)
    obtain ⟨x, l, e⟩ := List.exists_cons_of_ne_nil h2
    have := ih (n / 256) (by omega)
    rw [e] at this ⊢
    simpa using this
theorem digs_beN : ∀ {l : List UInt8}, l.head? ≠ some 0 → digs (beN l) = l := by
 intro l
 induction h : l.length generalizing l with
 | zero =>
  intro _
  rw [List.eq_nil_of_length_eq_zero h]
  exact digs_zero
 | succ k ih =>
  intro hh
  obtain ⟨m, b, rfl⟩ : ∃ m b, l = m ++ [b] := ⟨l.dropLast, l.getLast (by rintro rfl; cases h), (List.dropLast_concat_getLast _).symm⟩
  have hm : m.length = k := by simpa using h
  have hm0 : m.head? ≠ some 0 := by
   rcases m with _ | ⟨x, m⟩
   ·simp
   ·simpa using hh
  have hb := b.toNat_lt
  have hne : beN (m ++ [b]) ≠ 0 := by
   rw [beN_snoc]
   intro e
   have h1 : beN m = 0 := by omega
   have h2 := ih hm hm0
   rw [h1, digs_zero] at h2
   subst h2
   have h3 : b = 0 := UInt8.toNat_inj.1 (by
    have : b.toNat = 0 := by omega
    rw [this]
    rfl)
   subst h3
   simp at hh
  rw [digs_pos hne, beN_snoc, show (beN m * 256 + b.toNat) / 256 = beN m by omega, show (beN m * 256 + b.toNat) % 256 = b.toNat by omega, ih hm hm0]
  simp
def formN (n : Nat) : List UInt8 := UInt8.ofNat (digs n).length :: digs n
def readN : List UInt8 → Option (Nat × List UInt8)
 | [] => none
 | s :: r => if 8 < s.toNat ∨ r.length < s.toNat ∨ (0 < s.toNat ∧ r.head? = some 0) then none else some (beN (r.take s.toNat), r.drop s.toNat)
theorem readN_cons (s : UInt8) (r : List UInt8) : readN (s :: r) = if 8 < s.toNat ∨ r.length < s.toNat ∨ (0 < s.toNat ∧ r.head? = some 0) then none else some (beN (r.take s.toNat), r.drop s.toNat) := rfl
theorem readN_form {n : Nat} (h : n < 2 ^ 64) (r : List UInt8) : readN (formN n ++ r) = some (n, r) := by
 have hl : (digs n).length ≤ 8 := digs_len (k := 8) (by simpa using h)
 have hs : (UInt8.ofNat (digs n).length).toNat = (digs n).length := by
  simp
  omega
 have e : formN n ++ r = UInt8.ofNat (digs n).length :: (digs n ++ r) := rfl
 rw [e, readN_cons, hs, if_neg, List.take_left' rfl, List.drop_left' rfl, beN_digs]
 rintro (h1 | h1 | ⟨h1, h2⟩)
 ·omega
 ·rw [List.length_append] at h1
  omega
 ·obtain ⟨x, l, e2⟩ := List.exists_cons_of_ne_nil (List.ne_nil_of_length_pos h1)
  have h3 := digs_head n
  rw [e2] at h2 h3
  exact h3 (by simpa using h2)
theorem readN_some {b r : List UInt8} {n : Nat} (h : readN b = some (n, r)) : b = formN n ++ r ∧ n < 2 ^ 64 := by
 rcases b with _ | ⟨s, t⟩
 ·cases h
 ·rw [readN_cons] at h
  split at h
  ·cases h
  ·rename_i hc
   have h1 : ¬ 8 < s.toNat := fun k => hc (.inl k)
   have h2 : ¬ t.length < s.toNat := fun k => hc (.inr (.inl k))
   have h3 : ¬ (0 < s.toNat ∧ t.head? = some 0) := fun k => hc (.inr (.inr k))
   injection h with h
   injection h with h4 h5
   subst h4 h5
   have hlen : (t.take s.toNat).length = s.toNat := by
    rw [List.length_take]
    omega
   have hh : (t.take s.toNat).head? ≠ some 0 := fun e => by
    rcases Nat.eq_zero_or_pos s.toNat with h0 | h0
    ·rw [h0] at e
     simp at e
    ·refine h3 ⟨h0, ?_⟩
     rcases t with _ | ⟨x, t⟩
     ·simp at e
     ·obtain ⟨k, hk⟩ : ∃ k, s.toNat = k + 1 := ⟨s.toNat - 1, by omega⟩
      rw [hk] at e
      simpa using e
   have hd := digs_beN hh
   refine ⟨?_, ?_⟩
   ·unfold formN
    rw [hd, hlen]
    simp
   ·have := beN_lt (t.take s.toNat)
    rw [hlen] at this
    refine Nat.lt_of_lt_of_le this ?_
    have : 256 ^ s.toNat ≤ 256 ^ 8 := Nat.pow_le_pow_right (by decide) (by omega)
    simpa using this
theorem formN_len {n : Nat} (h : n < 2 ^ 64) : (formN n).length ≤ 9 := by
 have := digs_len (n := n) (k := 8) (by simpa using h)
 simp [formN]
 omega
end Mur
namespace Mur
open Go Go.RowKit
abbrev Prs (α : Type) := List UInt8 → Option (α × List UInt8)
structure Codec {α : Type} (enc : α → List UInt8) (dom : α → Prop) (p : Prs α) : Prop where
 rt : ∀ x r, dom x → p (enc x ++ r) = some (x, r)
 un : ∀ b x r, p b = some (x, r) → b = enc x ++ r ∧ dom x
section
variable {α β : Type} {enc : α → List UInt8} {dom : α → Prop} {p : Prs α} {enc2 : β → List UInt8} {dom2 : β → Prop} {p2 : Prs β}
def pSeq (p : Prs α) (p2 : Prs β) : Prs (α × β) := fun b => (p b).bind fun y => (p2 y.2).map fun z => ((y.1, z.1), z.2)
theorem Codec.seq (h : Codec enc dom p) (k : Codec enc2 dom2 p2) : Codec (fun y : α × β => enc y.1 ++ enc2 y.2) (fun y => dom y.1 ∧ dom2 y.2) (pSeq p p2) := by
 refine ⟨fun x r hx => ?_, fun b x r hb => ?_⟩
 ·unfold pSeq
  rw [List.append_assoc, h.rt x.1 _ hx.1, Option.bind_some, k.rt x.2 r hx.2]
  rfl
 ·unfold pSeq at hb
  obtain ⟨⟨x1, r1⟩, h1, h2⟩ := Option.bind_eq_some_iff.1 hb
  obtain ⟨⟨x2, r2⟩, h3, h4⟩ := Option.map_eq_some_iff.1 h2
  simp only [Prod.mk.injEq] at h4
  obtain ⟨rfl, rfl⟩ := h4
  obtain ⟨e1, d1⟩ := h.un b x1 r1 h1
  obtain ⟨e2, d2⟩ := k.un r1 x2 r2 h3
  exact ⟨by rw [e1, e2, List.append_assoc], d1, d2⟩
def pIf (p : Prs α) (ok : α → Bool) : Prs α := fun b => (p b).bind fun y => if ok y.1 then some y else none
theorem Codec.only (h : Codec enc dom p) (ok : α → Bool) : Codec enc (fun x => dom x ∧ ok x = true) (pIf p ok) := by
 refine ⟨fun x r hx => ?_, fun b x r hb => ?_⟩
 ·unfold pIf
  rw [h.rt x r hx.1, Option.bind_some, if_pos hx.2]
 ·unfold pIf at hb
  obtain ⟨⟨x1, r1⟩, h1, h2⟩ := Option.bind_eq_some_iff.1 hb
  split at h2
  ·rename_i ho
   cases h2
   obtain ⟨e1, d1⟩ := h.un b x r h1
   exact ⟨e1, d1, ho⟩
  ·cases h2
theorem Codec.iso (h : Codec enc dom p) (f : α → β) (g : β → α) (hg : ∀ y, dom2 y → dom (g y) ∧ f (g y) = y) (hf : ∀ x, dom x → dom2 (f x) ∧ g (f x) = x) : Codec (fun y => enc (g y)) dom2 (fun b => (p b).map fun y => (f y.1, y.2)) := by
 refine ⟨fun y r hy => ?_, fun b y r hb => ?_⟩
 ·show (p (enc (g y) ++ r)).map _ = _
  rw [h.rt (g y) r (hg y hy).1, Option.map_some, (hg y hy).2]
 ·obtain ⟨⟨x, r1⟩, h1, h2⟩ := Option.map_eq_some_iff.1 hb
  simp only [Prod.mk.injEq] at h2
  obtain ⟨rfl, rfl⟩ := h2
  obtain ⟨e1, d1⟩ := h.un b x r1 h1
  exact ⟨by rw [(hf x d1).2]; exact e1, (hf x d1).1⟩
def pMany (p : Prs α) : Nat → Prs (List α)
 | 0 => fun b => some ([], b)
 | n + 1 => fun b => (p b).bind fun y => (pMany p n y.2).map fun z => (y.1 :: z.1, z.2)
theorem Codec.many (h : Codec enc dom p) : ∀ n, Codec (fun l : List α => (l.map enc).flatten) (fun l => l.length = n ∧ ∀ x, x ∈ l → dom x) (pMany p n)
 | 0 => ⟨fun l r hl => by
   obtain rfl := List.eq_nil_of_length_eq_zero hl.1
   rfl, fun b l r hb => by
   unfold pMany at hb
   cases hb
   exact ⟨rfl, rfl, fun x hx => by cases hx⟩⟩
 | n + 1 => by
  have ih := h.many n
  refine ⟨fun l r hl => ?_, fun b l r hb => ?_⟩
  ·obtain ⟨x, l, rfl⟩ : ∃ x m, l = x :: m := by
    rcases l with _ | ⟨x, m⟩
    ·cases hl.1
    ·exact ⟨x, m, rfl⟩
   unfold pMany
   rw [List.map_cons, List.flatten_cons, List.append_assoc, h.rt x _ (hl.2 x (by simp)), Option.bind_some, ih.rt l r ⟨by simpa using hl.1, fun y hy => hl.2 y (List.mem_cons_of_mem _ hy)⟩]
   rfl
  ·unfold pMany at hb
   obtain ⟨⟨x1, r1⟩, h1, h2⟩ := Option.bind_eq_some_iff.1 hb
   obtain ⟨⟨l2, r2⟩, h3, h4⟩ := Option.map_eq_some_iff.1 h2
   simp only [Prod.mk.injEq] at h4
   obtain ⟨rfl, rfl⟩ := h4
   obtain ⟨e1, d1⟩ := h.un b x1 r1 h1
   obtain ⟨e2, d2⟩ := ih.un r1 l2 r2 h3
   refine ⟨?_, by simp [d2.1], fun y hy => ?_⟩
   ·show b = (List.map enc (x1 :: l2)).flatten ++ r2
    rw [List.map_cons, List.flatten_cons, List.append_assoc, e1]
    congr 1
   ·rcases List.mem_cons.1 hy with rfl | hy
    ·exact d1
    ·exact d2.2 y hy
end
-- numbers, of at most so much
theorem codecN : Codec formN (fun n => n < 2 ^ 64) readN := ⟨fun _ r hx => readN_form hx r, fun _ _ _ hb => readN_some hb⟩
def readI : Prs Nat := pIf readN fun n => decide (n ≤ 2 ^ 30)
theorem codecI : Codec formN (fun n => n ≤ 2 ^ 30) readI := by
 have h := codecN.only fun n => decide (n ≤ 2 ^ 30)
 exact ⟨fun x r hx => h.rt x r ⟨by omega, by simpa using hx⟩, fun b x r hb => ⟨(h.un b x r hb).1, by simpa using (h.un b x r hb).2.2⟩⟩
def readK : Prs Nat := pIf readI fun n => decide (n ≤ 255)
theorem codecK : Codec formN (fun n => n ≤ 255) readK := by
 have h := codecI.only fun n => decide (n ≤ 255)
 exact ⟨fun x r hx => h.rt x r ⟨by omega, by simpa using hx⟩, fun b x r hb => ⟨(h.un b x r hb).1, by simpa using (h.un b x r hb).2.2⟩⟩
def flagN (b : Bool) : Nat := if b then 1 else 0
def readFlag : Prs Bool := fun b => (pIf readI (fun n => decide (n ≤ 1)) b).map fun y => (decide (y.1 = 1), y.2)
theorem codecFlag : Codec (fun b => formN (flagN b)) (fun _ => True) readFlag := by
 have h := codecI.only fun n => decide (n ≤ 1)
 refine h.iso (dom2 := fun _ => True) (fun n => decide (n = 1)) flagN (fun b _ => ⟨⟨by cases b <;> decide, by cases b <;> decide⟩, by cases b <;> rfl⟩) fun n hn => ⟨trivial, ?_⟩
 have h1 : n ≤ 1 := by simpa using hn.2
 rcases Nat.le_one_iff_eq_zero_or_eq_one.1 h1 with rfl | rfl <;> rfl
def readS (n : Nat) : Prs (List UInt8) := fun b => if b.length < n then none else some (b.take n, b.drop n)
theorem codecS (n : Nat) : Codec (fun l : List UInt8 => l) (fun l => l.length = n) (readS n) := by
 refine ⟨fun l r hl => ?_, fun b l r hb => ?_⟩
 ·unfold readS
  rw [if_neg (by rw [List.length_append]; omega), List.take_left' hl, List.drop_left' hl]
 ·unfold readS at hb
  split at hb
  ·cases hb
  ·rename_i hn
   cases hb
   exact ⟨(List.take_append_drop n b).symm, by rw [List.length_take]; omega⟩
def readB : Prs (List UInt8) := fun b => (readN b).bind fun y => readS y.1 y.2
theorem codecB : Codec (fun l : List UInt8 => formN l.length ++ l) (fun l => l.length < 2 ^ 64) readB := by
 refine ⟨fun l r hl => ?_, fun b l r hb => ?_⟩
 ·unfold readB
  rw [List.append_assoc, readN_form hl, Option.bind_some]
  exact (codecS l.length).rt l r rfl
 ·unfold readB at hb
  obtain ⟨⟨n, r1⟩, h1, h2⟩ := Option.bind_eq_some_iff.1 hb
  obtain ⟨e1, d1⟩ := readN_some h1
  obtain ⟨e2, d2⟩ := (codecS n).un r1 l r h2
  exact ⟨by rw [e1, e2, d2, List.append_assoc], by rw [d2]; exact d1⟩
def readL {α : Type} (p : Prs α) : Prs (List α) := fun b => (readI b).bind fun y => pMany p y.1 y.2
theorem codecL {α : Type} {enc : α → List UInt8} {dom : α → Prop} {p : Prs α} (h : Codec enc dom p) : Codec (fun l : List α => formN l.length ++ (l.map enc).flatten) (fun l => l.length ≤ 2 ^ 30 ∧ ∀ x, x ∈ l → dom x) (readL p) := by
 refine ⟨fun l r hl => ?_, fun b l r hb => ?_⟩
 ·unfold readL
  rw [List.append_assoc, codecI.rt l.length _ hl.1, Option.bind_some]
  exact (h.many l.length).rt l r ⟨rfl, hl.2⟩
 ·unfold readL at hb
  obtain ⟨⟨n, r1⟩, h1, h2⟩ := Option.bind_eq_some_iff.1 hb
  obtain ⟨e1, d1⟩ := codecI.un b n r1 h1
  obtain ⟨e2, d2⟩ := (h.many n).un r1 l r h2
  exact ⟨by rw [e1, e2, d2.1, List.append_assoc], by rw [d2.1]; exact d1, d2.2⟩
end Mur
namespace Mur
open Go Go.RowKit Wk
structure Dop where
 kd : Int
 f : Int
 A : Option Addr
 m : Nat
 c : Nat
 b : List UInt8
 k0 : Int
 k1 : Int
def Dop.cells (x : Dop) : List Value := [.int .i64 x.kd, .int .i64 x.f, .slice x.A x.m x.c, .int .i64 x.k0, .int .i64 x.k1]
structure Dop.Ok (w : World) (x : Dop) : Prop where
 byt : Byt w x.A x.m x.b
 nc : x.m ≤ x.c
 cm : x.c ≤ 9223372036854775807
 nil : x.A = none → x.c = 0
def Dops (w : World) (A : Option Addr) (n : Nat) (L : List Dop) : Prop :=
 L.length = n ∧ (∀ x ∈ L, x.Ok w) ∧ (0 < n → ∃ g off, A = some ⟨g, off, none⟩ ∧ ∀ i x, L[i]? = some x → w.rangeAt g (off + i * 5) x.cells)
theorem Dops.at {w : World} {A : Option Addr} {n : Nat} {L : List Dop} (h : Dops w A n L) {k : Nat} (hk : k < n) : ∃ g off kd f B mb cb bs k0 k1, A = some ⟨g, off, none⟩ ∧ g < w.heap.size ∧ w.rangeAt g (off + k * 5) [.int .i64 kd, .int .i64 f, .slice B mb cb, .int .i64 k0, .int .i64 k1] ∧ Byt w B mb bs ∧ mb ≤ cb ∧ cb ≤ 9223372036854775807 ∧ (B = none → cb = 0) := by
 obtain ⟨h1, h2, h3⟩ := h
 obtain ⟨g, off, rfl, hc⟩ := h3 (by omega)
 obtain ⟨x, hx⟩ : ∃ x, L[k]? = some x := ⟨_, List.getElem?_eq_getElem (by omega)⟩
 have hok := h2 x (List.mem_of_getElem? hx)
 have q := hc k x hx
 have hg : g < w.heap.size := World.block_lt_of_cell? w ⟨g, off + k * 5 + 0, none⟩ (q 0 (.int .i64 x.kd) rfl)
 exact ⟨g, off, x.kd, x.f, x.A, x.m, x.c, x.b, x.k0, x.k1, rfl, hg, q, hok.byt, hok.nc, hok.cm, hok.nil⟩
end Mur
namespace Mur
end Mur
namespace Mur
open Go Go.RowKit Wk
section
variable {P : Program} {w : World} {a : Act} {o : Oper}
theorem to_u64 (s t : TypeId) (x : Operand) (ho : o.op = .convert s t x) (hs : (P.underlying s).isSome = true) (ht : P.underlying t = some (.int .u64)) (k : IntKind) (z : Int) (hx : a.eval x = .int k z) :
  ∃ v w1, (execOp a.eval o).run P w = .ok (.value v) w1 ∧ ∃ u : Nat, v = .int .u64 (u : Int) ∧ w = w1 ∧ (u : Int) = IntKind.u64.wrap z := by
 have h0 : 0 ≤ IntKind.u64.wrap z := by
  simp only [IntKind.wrap]
  exact Int.emod_nonneg _ (by decide)
 have hk : P.intKind t = .u64 := by simp [Program.intKind, ht]
 refine ⟨_, w, ?_, (IntKind.u64.wrap z).toNat, rfl, rfl, Int.toNat_of_nonneg h0⟩
 have key : (convert s t (.int k z)).run P w = .ok (.int .u64 (IntKind.u64.wrap z)) w := by
  have := run_convert_int (P := P) (w := w) s t k z hs (by rw [ht, hk])
  rw [this, hk]
 unfold execOp
 simp only [ho, hx, Sem.run_bind, key, Result.andThen_ok, Sem.run_pure, Int.toNat_of_nonneg h0]
theorem conv_int (s t : TypeId) (x : Operand) (ho : o.op = .convert s t x) (hs : (P.underlying s).isSome = true) (k' : IntKind) (ht : P.underlying t = some (.int k')) (k : IntKind) (z : Int) (hx : a.eval x = .int k z) (hz : k'.wrap z = z) :
  (execOp a.eval o).run P w = .ok (.value (.int k' z)) w := by
 have hk : P.intKind t = k' := by simp [Program.intKind, ht]
 have key : (convert s t (.int k z)).run P w = .ok (.int k' z) w := by
  have := run_convert_int (P := P) (w := w) s t k z hs (by rw [ht, hk])
  rw [this, hk, hz]
 unfold execOp
 simp only [ho, hx, Sem.run_bind, key, Result.andThen_ok, Sem.run_pure]
theorem u64_nat {n : Nat} (h : n < 18446744073709551616) : IntKind.u64.wrap (n : Int) = (n : Int) := by
 have h1 : IntKind.u64.wrap (n : Int) = (n : Int) % 18446744073709551616 := rfl
 rw [h1, Int.emod_eq_of_lt (by omega) (by omega)]
theorem i64_nat {n : Nat} (h : n < 9223372036854775808) : IntKind.i64.wrap (n : Int) = (n : Int) := IntWalk.i64_in _ ⟨by omega, by omega⟩
theorem rem_u64 (t ty : TypeId) (x y : Operand) (ho : o.op = .binOp .rem t x y ty) (i n : Nat) (hx : a.eval x = .int .u64 (i : Int)) (hy : a.eval y = .int .u64 (n : Int)) (hn : 0 < n) :
  (execOp a.eval o).run P w = .ok (.value (.int .u64 ((i % n : Nat) : Int))) w := by
 have hne : ¬ n = 0 := by omega
 unfold execOp
 simp only [ho, hx, hy]
 simp [eqGuard, binOp, Op.intDiv, hne, Int.tmod_eq_emod_of_nonneg (show (0 : Int) ≤ (i : Int) by omega)]
theorem run_op_from (t : TypeId) (x y : Operand) (ho : o.op = .slice t x (some y) none none) (e : TypeId) (ht : P.underlying t = some (.slice e)) (hsz : (P.info? e).map (·.size) = some 1) (A : Option Addr) (n c l : Nat)
  (hx : a.eval x = .slice A n c) (hy : a.eval y = .int .i64 (l : Int)) (hl : l ≤ n) (hnc : n ≤ c) : (execOp a.eval o).run P w = .ok (.value (.slice (cutA A c l) (n - l) (c - l))) w := by
 unfold execOp
 simp only [ho, hx, hy, Option.map_some, Option.map_none, Sem.run_bind, run_cut_from t e ht hsz A n c l hl hnc, Result.andThen_ok, Sem.run_pure]
theorem byt_from {A : Option Addr} {n c : Nat} {l : List UInt8} (h : Byt w A n l) (k : Nat) (hk : k ≤ n) (hnc : n ≤ c) : Byt w (cutA A c k) (n - k) (l.drop k) := by
 have := h.cut k n hk (Nat.le_refl _) hnc
 rwa [List.take_of_length_le (by rw [h.1]; exact Nat.le_refl _)] at this
end
end Mur
namespace Mur
open Go Go.RowKit Wk
section
variable {P : Program}
theorem run_eql_no {T e : TypeId} (h : DigT P T e) (d d' : List UInt8) (hd : d.length = 32) (hd' : d'.length = 32) (he : ¬ d = d') (w : World) (x y : Operand) (ty : TypeId) {a : Act} {o : Oper} (ho : o.op = .binOp .eql T x y ty)
  (hx : a.eval x = .agg (b8s d).toArray) (hy : a.eval y = .agg (b8s d').toArray) : (execOp a.eval o).run P w = .ok (.value (.bool false)) w := by
 rw [run_eql_dig h d d' hd hd' w x y ty a o ho hx hy, decide_eq_false he]
theorem run_eql_yes {T e : TypeId} (h : DigT P T e) (d d' : List UInt8) (hd : d.length = 32) (hd' : d'.length = 32) (he : d = d') (w : World) (x y : Operand) (ty : TypeId) {a : Act} {o : Oper} (ho : o.op = .binOp .eql T x y ty)
  (hx : a.eval x = .agg (b8s d).toArray) (hy : a.eval y = .agg (b8s d').toArray) : (execOp a.eval o).run P w = .ok (.value (.bool true)) w := by
 rw [run_eql_dig h d d' hd hd' w x y ty a o ho hx hy, decide_eq_true he]
end
end Mur
namespace Go.Proofs.YtgbadghjnpbiaaaGreatDoor
open Go.RowKit
def n64s (l : List Nat) : Array Value := (l.map fun x : Nat => Value.int .u64 (x : Int)).toArray
theorem cell_n64s {w : World} {g t i : Nat} {fr : Nat × Nat} {l : List Nat} (h : w.heap[g]? = some (.cells (n64s l) t fr)) (hi : i < l.length) : w.cell? ⟨g, i, none⟩ = some (.int .u64 ((l.getD i 0 : Nat) : Int)) := by
 rw [cell_of_row w g i _ t _ h]
 simp [n64s, List.getD_eq_getElem?_getD, hi]
theorem set_n64s {w : World} {g t i : Nat} {l : List Nat} (h : w.heap[g]? = some (.cells (n64s l) t (0, 0))) (x : Nat) : (w.setCell ⟨g, i, none⟩ (.int .u64 (x : Int))).heap[g]? = some (.cells (n64s (l.set i x)) t (0, 0)) := by
 rw [heap_setCell_same w g i _ t _ h]
 simp [n64s, List.map_set]
theorem n64s_all (l : List Nat) : (n64s l).all (·.oneCell') = true := by simp [n64s, Value.oneCell']
theorem n64s_size (l : List Nat) : (n64s l).size = l.length := by simp [n64s]
theorem getD_lt {l : List Nat} {B : Nat} (hB : 0 < B) (h : ∀ x ∈ l, x < B) (i : Nat) : l.getD i 0 < B := by
 rw [List.getD_eq_getElem?_getD]
 cases hq : l[i]? with
 | none => simpa using hB
 | some x => exact h x (List.mem_of_getElem? hq)
theorem ret_bool {a b : Bool} (h : a = b) : Ending.returned (.bool a) = .returned (.bool b) := by rw [h]
theorem primeB_of {n k : Nat} (h : ∀ j, 2 ≤ j → j < k → n % j ≠ 0) (hsq : n < k * k) : Mur.primeB n = decide (1 < n) := by
 have hall : ((List.range n).all fun j => decide (j < 2) || decide (n < j * j) || n % j != 0) = true := by
  rw [List.all_eq_true]
  intro j _
  by_cases h2 : j < 2
  ·simp [h2]
  ·by_cases hj : j < k
   ·have := h j (by omega) hj
    simp [this]
   ·have : k * k ≤ j * j := Nat.mul_le_mul (by omega) (by omega)
    simp [show n < j * j by omega]
 unfold Mur.primeB
 rw [hall, Bool.and_true]
theorem primeB_not {n k : Nat} (hk : 2 ≤ k) (hsq : k * k ≤ n) (hd : n % k = 0) : Mur.primeB n = false := by
 have hlt : k < n := by
  have : 2 * k ≤ k * k := Nat.mul_le_mul_right _ hk
  omega
 unfold Mur.primeB
 rw [Bool.and_eq_false_iff]
 right
 rw [List.all_eq_false]
 exact ⟨k, List.mem_range.2 hlt, by simp [hd, show ¬ k < 2 by omega, show ¬ n < k * k by omega]⟩
set_option maxRecDepth 100000
theorem prime_any (n : Nat) (w : World) (hn : n ≤ 400) : Calls Tryz.prog 102 #[.int .i64 (n : Int)] w fun e w' => e = .returned (.bool (Mur.primeB n)) ∧ w = w' := by
 go_enter Tryz.func102, Tryz.ntmps102
 go_wp2
 go_loop [3] (fun v => ∃ k : Nat, 2 ≤ k ∧ k ≤ n + 2 ∧ v = .int .i64 k ∧ Hid (∀ j, 2 ≤ j → j < k → n % j ≠ 0)) (fun v => n + 3 - (intOf v).toNat)
 case atStart => exact ⟨2, by omega, by omega, rfl, fun j h1 h2 => by omega⟩
 case round =>
  obtain ⟨k, hk2, hkn, rfl, hno⟩ := hrel
  have b1 : (k : Int) * (k : Int) ≤ 1000000 := by
   have : k * k ≤ 402 * 402 := Nat.mul_le_mul (by omega) (by omega)
   have h : ((k * k : Nat) : Int) ≤ 1000000 := by omega
   rwa [Int.natCast_mul] at h
  have b0 : 0 ≤ (k : Int) * (k : Int) := Int.mul_nonneg (by omega) (by omega)
  by_cases hsq : k * k ≤ n
  ·have hsq' : (k : Int) * (k : Int) ≤ (n : Int) := by
    have h : ((k * k : Nat) : Int) ≤ (n : Int) := by omega
    rwa [Int.natCast_mul] at h
   by_cases hd : n % k = 0
   ·have hp := primeB_not hk2 hsq hd
    have HP := Go.Lib.hid hp; clear hp
    have hd' : ((n : Int) % (k : Int) == 0) = true := by rw [beq_iff_eq]; omega
    clear hsq hd
    go_wp2
    go_ret
    exact ⟨by rw [HP.out]; rfl, rfl⟩
   ·have hd' : ((n : Int) % (k : Int) == 0) = false := by rw [beq_eq_false_iff_ne]; omega
    have HD := Go.Lib.hid hd; clear hd
    have HS := Go.Lib.hid hsq; clear hsq
    go_wp2
    refine ⟨⟨k + 1, by omega, ?_, by go_num, fun j h1 h2 => ?_⟩, by simp [intOf]; omega⟩
    ·have : 2 * k ≤ k * k := Nat.mul_le_mul_right _ hk2
     have := HS.out
     omega
    ·by_cases e : j = k
     ·rw [e]; exact HD.out
     ·exact hno.out j h1 (by omega)
  ·have hsq' : (n : Int) < (k : Int) * (k : Int) := by
    have h : (n : Int) < ((k * k : Nat) : Int) := by omega
    rwa [Int.natCast_mul] at h
   have hp := primeB_of hno.out (by omega)
   have HP := Go.Lib.hid hp; clear hp hno hsq
   go_wp2
   go_ret
   exact ⟨ret_bool (by rw [HP.out, decide_eq_decide]; omega), rfl⟩
def L3 (w : World) (d e : List Nat) (wr : World) : Prop :=
 Below w.heap.size w wr ∧ wr.heap.size = w.heap.size + 2 ∧ wr.heap[w.heap.size]? = some (.cells (n64s d) 143 (0, 0)) ∧ wr.heap[w.heap.size + 1]? = some (.cells (n64s e) 143 (0, 0))
theorem L3.set {w wr : World} {d e : List Nat} (h : L3 w d e wr) (k x : Nat) : L3 w d (e.set k x) (wr.setCell ⟨w.heap.size + 1, k, none⟩ (.int .u64 (x : Int))) :=
 ⟨h.1.setCell (by simp) _, by simpa using h.2.1, Mur.hp_set_ne h.2.2.1 _ _ _ (by omega), set_n64s h.2.2.2 x⟩
def digTo4 (n k : Nat) : List Nat := (Mur.dgs 10 n).take k ++ List.replicate (10 - k) 0
theorem digTo4_succ (n k : Nat) (h : k < 10) : digTo4 n (k + 1) = (digTo4 n k).set k (n / 65536 ^ k % 65536) := by
 have hl := Mur.dgs_length 10 n
 have hq : k < (Mur.dgs 10 n).length := by omega
 have hg : (Mur.dgs 10 n)[k] = n / 65536 ^ k % 65536 := by
  rw [← Mur.dgs_getD 10 n k h, List.getD_eq_getElem?_getD, List.getElem?_eq_getElem hq]
  rfl
 have hlt : ((Mur.dgs 10 n).take k).length = k := by rw [List.length_take]; omega
 rw [digTo4, digTo4, List.take_succ_eq_append_getElem hq, hg, show 10 - k = (10 - (k + 1)) + 1 by omega, List.replicate_succ, List.set_append_right _ _ (by omega), hlt, Nat.sub_self, List.set_cons_zero, List.append_assoc]
 rfl
theorem digTo4_length (n k : Nat) (h : k ≤ 10) : (digTo4 n k).length = 10 := by simp [digTo4, Mur.dgs_length]; omega
theorem digTo4_four (n : Nat) (h : n < 281474976710656) : digTo4 n 4 = Mur.dgs 10 n := by
 have e := Mur.dgs_small 4 6 n (by omega)
 have hl := Mur.dgs_length 4 n
 unfold digTo4
 rw [e, List.take_append_of_le_length (by omega), List.take_of_length_le (by omega)]
theorem digits_any (n : Nat) (w : World) (hn : n < 281474976710656) : Calls Tryz.prog 103 #[.int .u64 (n : Int)] w
  fun e w' => ∃ l, Hid (l = Mur.dgs 10 n) ∧ l.length = 10 ∧ (∀ x ∈ l, x < 65536) ∧ e = .returned (.agg (n64s l)) ∧ Below w.heap.size w w' := by
 go_enter Tryz.func103, Tryz.ntmps103
 go_wp2
 go_loopw [0, 4] (fun v t wr => ∃ k m : Nat, k ≤ 4 ∧ t = .int .i64 k ∧ m ≤ n ∧ Hid (m = n / 65536 ^ k) ∧ v = .int .u64 (m : Int) ∧ L3 w (List.replicate 10 0) (digTo4 n k) wr) (fun _ t _ => 4 - (intOf t).toNat)
 case atStart =>
  refine ⟨0, n, by omega, rfl, Nat.le_refl _, Go.Lib.hid (by simp), rfl, ((Below.refl _ _).alloc (Nat.le_refl _) _).alloc (by simp) _, by simp, ?_, ?_⟩
  ·exact (Mur.hp_old (Mur.hp_a1 _ _) _).trans rfl
  ·exact (Mur.hp_a2 _ _ _).trans rfl
 case round =>
  obtain ⟨k, m, hk, rfl, hm, hmk, rfl, HL⟩ := hrel
  by_cases hlt : k < 4
  ·have cd := cell_n64s (i := k) HL.2.2.2 (by rw [digTo4_length _ _ (by omega)]; omega)
   have fd := Mur.free_row (i := k) HL.2.2.2
   go_wp2
   refine ⟨⟨k + 1, m / 65536, by omega, by go_num, by omega, Go.Lib.hid (by rw [hmk.out, Nat.div_div_eq_div_mul, Nat.pow_succ]), by go_num, ?_⟩, by simp [intOf]; omega⟩
   rw [digTo4_succ n k (by omega), ← hmk.out]
   exact HL.set k (m % 65536)
  ·obtain rfl : k = 4 := by omega
   have hz : (n64s (digTo4 n 4)).size = 10 := by rw [n64s_size, digTo4_length _ _ (by omega)]
   have hd : digTo4 n 4 = Mur.dgs 10 n := digTo4_four n hn
   have HD := Go.Lib.hid hd; clear hd
   have HZ := Go.Lib.hid hz; clear hz
   go_wp2_with (first
    | (refine wpList_load_row rfl 143 (.tmp 3) rfl (w.heap.size + 1) rfl 143 (n64s (digTo4 n 4)) (0, 0) _ HL.2.2.2 Tryz.underlying143 rfl (by rw [HZ.out]; kernel_rfl) ?_)
    | (refine wpList_store_row rfl 143 (.tmp 2) (.tmp 15) rfl w.heap.size (n64s (digTo4 n 4)) rfl rfl 143 (n64s (List.replicate 10 0)) HL.2.2.1 (by rw [HZ.out]; kernel_rfl) (by rw [HZ.out]; rfl) (n64s_all _) ?_))
   refine bodyPost_ret (v := .agg (n64s (digTo4 n 4))) (results_cell_row rfl _ _ w.heap.size 143 (n64s (digTo4 n 4)) (0, 0) _ rfl (setRow_heap _ _ _ _ _ _ HL.2.2.1) Tryz.underlying143 rfl (by rw [HZ.out]; kernel_rfl)) rfl ⟨_, HD, digTo4_length _ _ (by omega), ?_, rfl, below_setRow HL.1 (Nat.le_refl _) _⟩
   rw [HD.out]
   exact Mur.dgs_lt 10 n
end Go.Proofs.YtgbadghjnpbiaaaGreatDoor
