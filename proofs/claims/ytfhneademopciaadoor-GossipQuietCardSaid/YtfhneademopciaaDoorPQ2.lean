/- Explicit steps of a walk: each operation by its own run, in plain regions and in regions that draw their order; what becomes of the world. No program in sight. Steps on memory: what a change leaves alone; loads, stores, indices, new blocks, appends. No program in sight. A disk as the document has it, and how one lies. No program in sight. Strings in explicit steps. No program in sight. Rows of bytes stored, copied, cut, xored; slices of one's own that bytes are appended to; slices of slices. No program in sight. Arguments that come in: bytes, slices of slices of bytes, rows of bytes. No program in sight. The disk's laws' ops, as they lie. No program in sight. Two disks; remainders of unsigned numbers. No program in sight. Two digests, byte by byte. No program in sight. The reference's prime, digits, above, walked. The reference's above, times, walked. The reference's root, walked. The reference's primes, Words, walked: the words of the standard. The reference's block, walked: it is the plain function's round. The reference's padded, walked: the padded text. The reference's Sum, walked: the digest of bytes. What the document's tag needs: words as variables; rows that are variables. An attest as it lies, built, cut, stored and compared; a number's eight bytes. The program's digests, as values. The program's attests: built, compared. Attests that come in. Reading an attest: cuts with three numbers, bytes copied into the midst of a row, a number out of its bytes. No program in sight. Bytes joined and compared: the two entries without a body; a row filled from the front. -/
import Derived.OrdersHeld
import Derived.LoopN
import Derived.WalkKit
import Derived.Lib.Hide
import Derived.Deep.MidRow
import Derived.Deep.Draws
import Derived.Maps.AppendAt
import Derived.OwnWalk
import Derived.Laws.CopyOwn
import Derived.Laws.MakeOwn
import Derived.Deep.AppendLies
import Derived.Lib.SlBytesConst
import Derived.Laws.Strings
import Derived.Laws.CopyRow
import Derived.Lib.AppendZerosOnto
import Derived.Laws.Entries
import Derived.Test.YtfhneademopciaaDoorProg
import Derived.WalkLawsBesides
import Derived.WalkSpells
import Derived.Deep.QuietTactic
import Derived.BigQuiet
import Derived.Laws.Tables
import Derived.Lib.MakeNoZero
import Derived.Lib.Bytealg
import Derived.Laws.Externs
import Derived.Test.YtfhneademopciaaDoorPQ1
namespace Wk
open Go Go.RowKit
section control
variable {P : Program} {Q : Exit → Act → World → Prop} {next : Act → World → Prop} {a : Act} {w : World}
theorem nxt (h : next a w) : Exit.then next Q .normal a w := h
theorem thX {id : Nat} (h : Q (.exit id) a w) : Exit.then next Q (.exit id) a w := h
theorem thR (h : Q .ret a w) : Exit.then next Q .ret a w := h
theorem inN {id : Nat} (h : Q .normal a w) : Exit.inBlock id Q .normal a w := h
theorem inR {id : Nat} (h : Q .ret a w) : Exit.inBlock id Q .ret a w := h
theorem inX {id : Nat} (h : Q .normal a w) : Exit.inBlock id Q (.exit id) a w := by simp only [Exit.inBlock, if_pos]; exact h
theorem inY {id id' : Nat} (e : (id' == id) = false) (h : Q (.exit id') a w) : Exit.inBlock id Q (.exit id') a w := by
  simp only [Exit.inBlock]
  rw [if_neg (by simpa using e)]
  exact h
/-- A loop, its measure a number that the invariant names. -/
theorem loop {c : Code} (I : Nat → Act → World → Prop) (m0 : Nat) (h0 : I m0 a w)
    (round : ∀ m a w, I m a w → c.wp P (Exit.then (fun a' w' => ∃ m', m' < m ∧ I m' a' w') Q) a w) : (Code.loop c).wp P Q a w := by
  classical
  have key : ∀ n, ∀ m a w, m ≤ n → I m a w → ∃ k, I k a w ∧ ∀ j, j < k → ¬ I j a w := by
    intro n
    induction n with
    | zero => exact fun m a w hm h => ⟨m, h, fun j hj => by omega⟩
    | succ n ih =>
      intro m a w hm h
      by_cases hx : ∃ j, j < m ∧ I j a w
      · obtain ⟨j, hj, hI⟩ := hx
        exact ih j a w (by omega) hI
      · exact ⟨m, h, fun j hj hI => hx ⟨j, hj, hI⟩⟩
  let μ : Act → World → Nat := fun a w => if h : ∃ k, I k a w ∧ ∀ j, j < k → ¬ I j a w then Classical.choose h else 0
  have hμ : ∀ a w, (∃ m, I m a w) → I (μ a w) a w ∧ ∀ j, j < μ a w → ¬ I j a w := by
    rintro a w ⟨m, hm⟩
    have hx := key m m a w (Nat.le_refl _) hm
    simp only [μ, dif_pos hx]
    exact Classical.choose_spec hx
  refine wp_loop (fun a w => ∃ m, I m a w) μ ⟨m0, h0⟩ fun a w hI => ?_
  refine wp_mono (round _ _ _ (hμ a w hI).1) fun e a' w' hq => ?_
  cases e with
  | normal =>
    obtain ⟨m', hlt, hI'⟩ := hq
    refine ⟨⟨m', hI'⟩, ?_⟩
    have h2 := (hμ a' w' ⟨m', hI'⟩).2
    rcases Nat.lt_or_ge m' (μ a' w') with h | h
    · exact absurd hI' (h2 _ h)
    · exact Nat.lt_of_le_of_lt h hlt
  | _ => exact hq
/-- The ways meet again. -/
theorem cut {c : Code} (R : Act → World → Prop) (h : c.wp P (Exit.then R Q) a w) (k : ∀ a w, R a w → Q .normal a w) : c.wp P Q a w :=
  wp_mono h fun e a w hq => by
    cases e with
    | normal => exact k a w hq
    | _ => exact hq
theorem retN {fn : Func} {R : Ending → World → Prop} (v : Value) (hd : a.defers = []) (hr : (results fn a.tmps).run P w = .ok v w) (h : R (.returned v) w) : bodyPost P fn R .normal a w := ⟨hd, v, hr, h⟩
/-- A loop, round by round. -/
structure Rds (P : Program) (c : Code) (Q : Exit → Act → World → Prop) (n : Nat) (a : Act) (w : World) : Prop where
  out : Code.rounds P c Q n a w
theorem loopN {c : Code} (n : Nat) (h : Rds P c Q n a w) : (Code.loop c).wp P Q a w := wp_loop_rounds n h.out
theorem rdS {c : Code} {n : Nat} (h : c.wp P (Exit.then (Rds P c Q n) Q) a w) : Rds P c Q (n + 1) a w := ⟨wp_mono h fun e a w hq => by
  cases e with
  | normal => exact hq.out
  | _ => exact hq⟩
theorem ret {fn : Func} {R : Ending → World → Prop} (v : Value) (hd : a.defers = []) (hr : (results fn a.tmps).run P w = .ok v w) (h : R (.returned v) w) : bodyPost P fn R .ret a w := ⟨hd, v, hr, h⟩
end control
section plain
variable {P : Program} {ops : Array Oper} {Q : Exit → Act → World → Prop} {a : Act} {w w1 : World} {o : Oper}
/-- From operation i on. -/
structure From (P : Program) (ops : Array Oper) (Q : Exit → Act → World → Prop) (i : Nat) (a : Act) (w : World) : Prop where
  out : wpOps P ops Q ((List.range ops.size).drop i) a w
theorem reg {id : Nat} (h : From P ops Q 0 a w) : (Code.region id ops false).wp P Q a w := wp_region h.out
theorem from_step {i : Nat} (hi : ops[i]? = some o) (h : wpOp P ops Q i (From P ops Q (i + 1)) a w) : From P ops Q i a w := by
  have hlt : i < ops.size := (Array.getElem?_eq_some_iff.1 hi).1
  refine ⟨?_⟩
  rw [List.drop_eq_getElem_cons (by simpa using hlt), List.getElem_range, wpOps_cons]
  exact wpOp_mono (fun _ _ h => h.out) h
theorem rEnd (i : Nat) (hi : (ops.size == i) = true) (h : Q .normal a w) : From P ops Q i a w := by
  refine ⟨?_⟩
  rw [List.drop_of_length_le (by simp only [List.length_range]; exact Nat.le_of_eq (by simpa using hi))]
  exact h
theorem rVal (i : Nat) (d : Option Tmp) (v : Value) (hi : ops[i]? = some o) (hd : o.dst = d) (hw : Region.wanted o (yielded ops a.tmps) = true) (hrun : (execOp a.eval o).run P w = .ok (.value v) w1)
    (h : From P ops Q (i + 1) (a.put d v) w1) : From P ops Q i a w := by
  subst hd
  refine from_step hi ?_
  unfold wpOp
  simp only [hi]
  rw [if_pos hw]
  refine .inl ?_
  unfold Oper.wp
  rw [hrun, Oper.upon_value]
  exact h
theorem rPure (i : Nat) (d : Option Tmp) (v : Value) (hi : ops[i]? = some o) (hd : o.dst = d) (hw : Region.wanted o (yielded ops a.tmps) = true) (hrun : (execOp a.eval o).run P w = .ok (.value v) w)
    (h : From P ops Q (i + 1) (a.put d v) w) : From P ops Q i a w := rVal i d v hi hd hw hrun h
theorem rSkip (i : Nat) (d : Option Tmp) (hi : ops[i]? = some o) (hd : o.dst = d) (hw : Region.wanted o (yielded ops a.tmps) = true) (hrun : (execOp a.eval o).run P w = .ok .skip w1)
    (h : From P ops Q (i + 1) (a.put d undef) w1) : From P ops Q i a w := by
  subst hd
  refine from_step hi ?_
  unfold wpOp
  simp only [hi]
  rw [if_pos hw]
  refine .inl ?_
  unfold Oper.wp
  rw [hrun]
  exact h
theorem rPass (i : Nat) (d : Option Tmp) (hi : ops[i]? = some o) (hd : o.dst = d) (hw : Region.wanted o (yielded ops a.tmps) = false) (h : From P ops Q (i + 1) (a.put d undef) w) : From P ops Q i a w := by
  subst hd
  refine from_step hi ?_
  unfold wpOp
  simp only [hi, hw]
  exact h
theorem rEx (i : Nat) (d : Option Tmp) (F : Value → World → Prop) (hi : ops[i]? = some o) (hd : o.dst = d) (hw : Region.wanted o (yielded ops a.tmps) = true) (hrun : ∃ v w1, (execOp a.eval o).run P w = .ok (.value v) w1 ∧ F v w1)
    (h : ∀ v w1, F v w1 → From P ops Q (i + 1) (a.put d v) w1) : From P ops Q i a w := by
  obtain ⟨v, w1, h1, h2⟩ := hrun
  exact rVal i d v hi hd hw h1 (h v w1 h2)
theorem rExS (i : Nat) (d : Option Tmp) (F : World → Prop) (hi : ops[i]? = some o) (hd : o.dst = d) (hw : Region.wanted o (yielded ops a.tmps) = true) (hrun : ∃ w1, (execOp a.eval o).run P w = .ok .skip w1 ∧ F w1)
    (h : ∀ w1, F w1 → From P ops Q (i + 1) (a.put d undef) w1) : From P ops Q i a w := by
  obtain ⟨w1, h1, h2⟩ := hrun
  exact rSkip i d hi hd hw h1 (h w1 h2)
theorem rCall (i : Nat) (d : Option Tmp) (f : FuncId) (xs : List Operand) (ts : Array TypeId) (vals : List Value) (hi : ops[i]? = some o) (hd : o.dst = d) (hw : Region.wanted o (yielded ops a.tmps) = true)
    (ho : o.op = .call { callee := .value (.func f), args := xs.toArray, argTypes := ts }) (hv : xs.map a.eval = vals) (hrun : (callFunc f vals.toArray).run P w = .ok (.enter f vals.toArray) w)
    (hc : Calls P f vals.toArray w fun e w' => ∃ v, e = .returned v ∧ From P ops Q (i + 1) (a.put d v) w') : From P ops Q i a w := by
  subst hd
  refine from_step hi ?_
  unfold wpOp
  simp only [hi]
  rw [if_pos hw]
  refine .inl ?_
  obtain ⟨dst, op, ty, pos, after, guard⟩ := o
  simp only at ho
  subst ho
  unfold Oper.wp
  rw [execOp_call_go, List.map_toArray, hv, show #[] ++ vals.toArray ++ #[] = vals.toArray by simp, hrun, Oper.upon_enter]
  refine hc.mono ?_
  rintro e w' ⟨v, rfl, h1⟩
  exact h1
end plain
/-- One operation of a region that draws its order. -/
structure At (P : Program) (ops : Array Oper) (Q : Exit → Act → World → Prop) (i : Nat) (K : Act → World → Prop) (a : Act) (w : World) : Prop where
  out : wpOp P ops Q i K a w
section drawn
variable {P : Program} {ops : Array Oper} {o : Oper} {a : Act} {S : World → Prop} {Q : Exit → Act → World → Prop} {fuel : Nat} {listed : Array Bool} {w w1 : World}
/-- Operation i taken first: it yields v in every world that meets S. -/
theorem dVal (i : Nat) (d : Option Tmp) (v : Value) (hi : ops[i]? = some o) (hd : o.dst = d) (hs : Region.noSelect ops = true) (hf : Region.free .any ops listed i = true) (hr : (Region.ready .any ops listed).contains i = true)
    (hQ : ∀ c a w, Q (.panic c) (a.put d v) w → Q (.panic c) a w) (hw : Region.wanted o (yielded ops a.tmps) = true) (hrun : ∀ w, S w → (execOp a.eval o).run P w = .ok (.value v) w) (hS : S w)
    (h : wpAnyH P .any ops Q S fuel (listed.setIfInBounds i true) (a.put d v) w) : wpAnyH P .any ops Q S (fuel + 1) listed a w := by
  subst hd
  exact wpAnyH_take hi hs hf hr hQ (.inl ⟨hw, hrun⟩) hS h
theorem dPass (i : Nat) (d : Option Tmp) (hi : ops[i]? = some o) (hd : o.dst = d) (hs : Region.noSelect ops = true) (hf : Region.free .any ops listed i = true) (hr : (Region.ready .any ops listed).contains i = true)
    (hQ : ∀ c a w, Q (.panic c) (a.put d undef) w → Q (.panic c) a w) (hw : Region.wanted o (yielded ops a.tmps) = false) (hS : S w)
    (h : wpAnyH P .any ops Q S fuel (listed.setIfInBounds i true) (a.put d undef) w) : wpAnyH P .any ops Q S (fuel + 1) listed a w := by
  subst hd
  exact wpAnyH_take hi hs hf hr hQ (.inr ⟨hw, rfl⟩) hS h
theorem dOp (i : Nat) (hr : Region.ready .any ops listed = [i]) (h : At P ops Q i (fun a' w' => S w' ∧ wpAnyH P .any ops Q S fuel (listed.setIfInBounds i true) a' w') a w) : wpAnyH P .any ops Q S (fuel + 1) listed a w :=
  wpAnyH_all hr (by simp) fun j hj => by
    obtain rfl : j = i := by simpa using hj
    exact h.out
theorem dOp2 (i j : Nat) (hr : Region.ready .any ops listed = [i, j]) (h : At P ops Q i (fun a' w' => S w' ∧ wpAnyH P .any ops Q S fuel (listed.setIfInBounds i true) a' w') a w)
    (k : At P ops Q j (fun a' w' => S w' ∧ wpAnyH P .any ops Q S fuel (listed.setIfInBounds j true) a' w') a w) : wpAnyH P .any ops Q S (fuel + 1) listed a w :=
  wpAnyH_all hr (by simp) fun l hl => by
    rcases List.mem_cons.1 hl with rfl | hl
    · exact h.out
    · obtain rfl : l = j := by simpa using hl
      exact k.out
theorem oVal {i : Nat} {K : Act → World → Prop} (d : Option Tmp) (v : Value) (hi : ops[i]? = some o) (hd : o.dst = d) (hw : Region.wanted o (yielded ops a.tmps) = true) (hrun : (execOp a.eval o).run P w = .ok (.value v) w1)
    (h : K (a.put d v) w1) : At P ops Q i K a w := by
  subst hd
  refine ⟨?_⟩
  unfold wpOp
  simp only [hi]
  rw [if_pos hw]
  refine .inl ?_
  unfold Oper.wp
  rw [hrun, Oper.upon_value]
  exact h
theorem oSkip {i : Nat} {K : Act → World → Prop} (d : Option Tmp) (hi : ops[i]? = some o) (hd : o.dst = d) (hw : Region.wanted o (yielded ops a.tmps) = true) (hrun : (execOp a.eval o).run P w = .ok .skip w1)
    (h : K (a.put d undef) w1) : At P ops Q i K a w := by
  subst hd
  refine ⟨?_⟩
  unfold wpOp
  simp only [hi]
  rw [if_pos hw]
  refine .inl ?_
  unfold Oper.wp
  rw [hrun]
  exact h
theorem oEx {i : Nat} {K : Act → World → Prop} (d : Option Tmp) (F : Value → World → Prop) (hi : ops[i]? = some o) (hd : o.dst = d) (hw : Region.wanted o (yielded ops a.tmps) = true) (hrun : ∃ v w1, (execOp a.eval o).run P w = .ok (.value v) w1 ∧ F v w1)
    (h : ∀ v w1, F v w1 → K (a.put d v) w1) : At P ops Q i K a w := by
  obtain ⟨v, w1, h1, h2⟩ := hrun
  exact oVal d v hi hd hw h1 (h v w1 h2)
theorem oExS {i : Nat} {K : Act → World → Prop} (d : Option Tmp) (F : World → Prop) (hi : ops[i]? = some o) (hd : o.dst = d) (hw : Region.wanted o (yielded ops a.tmps) = true) (hrun : ∃ w1, (execOp a.eval o).run P w = .ok .skip w1 ∧ F w1)
    (h : ∀ w1, F w1 → K (a.put d undef) w1) : At P ops Q i K a w := by
  obtain ⟨w1, h1, h2⟩ := hrun
  exact oSkip d hi hd hw h1 (h w1 h2)
theorem oCall {i : Nat} {K : Act → World → Prop} (d : Option Tmp) (f : FuncId) (xs : List Operand) (ts : Array TypeId) (vals : List Value) (hi : ops[i]? = some o) (hd : o.dst = d) (hw : Region.wanted o (yielded ops a.tmps) = true)
    (ho : o.op = .call { callee := .value (.func f), args := xs.toArray, argTypes := ts }) (hv : xs.map a.eval = vals) (hrun : (callFunc f vals.toArray).run P w = .ok (.enter f vals.toArray) w)
    (hc : Calls P f vals.toArray w fun e w' => ∃ v, e = .returned v ∧ K (a.put d v) w') : At P ops Q i K a w := by
  subst hd
  refine ⟨?_⟩
  unfold wpOp
  simp only [hi]
  rw [if_pos hw]
  refine .inl ?_
  obtain ⟨dst, op, ty, pos, after, guard⟩ := o
  simp only at ho
  subst ho
  unfold Oper.wp
  rw [execOp_call_go, List.map_toArray, hv, show #[] ++ vals.toArray ++ #[] = vals.toArray by simp, hrun, Oper.upon_enter]
  refine hc.mono ?_
  rintro e w' ⟨v, rfl, h1⟩
  exact h1
theorem dEnd (hr : Region.ready .any ops listed = []) (h : Q .normal a w) : wpAnyH P .any ops Q S fuel listed a w := wpAnyH_done hr h _
end drawn
section runs
variable {P : Program} {w w1 : World} {s : Sem Next}
theorem int64 {n z : Int} (e : n = z) (lo : -9223372036854775808 ≤ z) (hi : z ≤ 9223372036854775807) (h : s.run P w = .ok (.value (.int .i64 (IntKind.i64.wrap n))) w1) : s.run P w = .ok (.value (.int .i64 z)) w1 := by
  subst e
  rw [h, show IntKind.i64.wrap n = n from IntWalk.i64_in n ⟨by omega, by omega⟩]
theorem boolT {b : Bool} (e : b = true) (h : s.run P w = .ok (.value (.bool b)) w1) : s.run P w = .ok (.value (.bool true)) w1 := by rw [h, e]
theorem boolF {b : Bool} (e : b = false) (h : s.run P w = .ok (.value (.bool b)) w1) : s.run P w = .ok (.value (.bool false)) w1 := by rw [h, e]
theorem val {v v' : Value} (e : v = v') (h : s.run P w = .ok (.value v) w1) : s.run P w = .ok (.value v') w1 := by rw [h, e]
end runs
end Wk
namespace Wk
open Go Go.RowKit
/-- A number that is none of some. -/
def Off (k : Nat) : List Nat → Prop
  | [] => True
  | s :: S => k ≠ s ∧ Off k S
theorem Off.append {k : Nat} : ∀ {S T : List Nat}, Off k (S ++ T) → Off k S ∧ Off k T
  | [], _, h => ⟨trivial, h⟩
  | _ :: _, _, h => let ⟨a, b⟩ := Off.append h.2; ⟨⟨h.1, a⟩, b⟩
theorem Off.of_lt {k B : Nat} (hk : k < B) : ∀ {S : List Nat}, (∀ s ∈ S, B ≤ s) → Off k S
  | [], _ => trivial
  | s :: _, h => ⟨by have := h s (by simp); omega, Off.of_lt hk fun x hx => h x (by simp [hx])⟩
theorem Off.mem {k : Nat} : ∀ {S : List Nat}, Off k S → ∀ s ∈ S, k ≠ s
  | _ :: _, h, s, hs => by
    rcases List.mem_cons.1 hs with rfl | hs
    · exact h.1
    · exact h.2.mem s hs
/-- Of what was there only the blocks S may have been written. -/
structure Chg (S : List Nat) (w w' : World) : Prop where
  os : w'.os = w.os
  tape : w'.tape = w.tape
  output : w'.output = w.output
  size : w.heap.size ≤ w'.heap.size
  block : ∀ k, k < w.heap.size → Off k S → w'.heap[k]? = w.heap[k]?
theorem Chg.refl (w : World) : Chg [] w w := ⟨rfl, rfl, rfl, Nat.le_refl _, fun _ _ _ => rfl⟩
theorem Chg.trans {S T : List Nat} {a b c : World} (h : Chg S a b) (k : Chg T b c) : Chg (S ++ T) a c :=
  ⟨k.os.trans h.os, k.tape.trans h.tape, k.output.trans h.output, Nat.le_trans h.size k.size, fun i hi ho => (k.block i (Nat.lt_of_lt_of_le hi h.size) ho.append.2).trans (h.block i hi ho.append.1)⟩
theorem Chg.more {S T : List Nat} {a b : World} (h : Chg S a b) (hs : ∀ s ∈ S, s ∈ T) : Chg T a b :=
  ⟨h.os, h.tape, h.output, h.size, fun i hi ho => h.block i hi (by
    clear h
    induction S with
    | nil => trivial
    | cons s S ih => exact ⟨ho.mem s (hs s (by simp)), ih fun x hx => hs x (by simp [hx])⟩)⟩
theorem Chg.drewN (w : World) (n : Nat) : Chg [] w (w.drewN n) := ⟨rfl, rfl, rfl, Nat.le_refl _, fun _ _ _ => rfl⟩
theorem Chg.drew (w : World) : Chg [] w w.drew := ⟨rfl, rfl, rfl, Nat.le_refl _, fun _ _ _ => rfl⟩
theorem Chg.alloc (w : World) (o : Obj) : Chg [] w (w.alloc o) := ⟨rfl, rfl, rfl, by simp, fun k hk _ => Below.heap_alloc w o k hk⟩
theorem Chg.ofBelow {w w' : World} (h : Below w.heap.size w w') : Chg [] w w' := ⟨h.os, h.tape, h.output, h.size, fun k hk _ => h.block k hk⟩
theorem Chg.below {S : List Nat} {w w' : World} {B : Nat} (h : Chg S w w') (hB : B ≤ w.heap.size) (hs : ∀ s ∈ S, B ≤ s) : Below B w w' :=
  ⟨h.os, h.tape, h.output, h.size, fun k hk => h.block k (by omega) (Off.of_lt hk hs)⟩
theorem Chg.below0 {w w' : World} (h : Chg [] w w') : Below w.heap.size w w' := h.below (Nat.le_refl _) (by simp)
theorem Chg.grown {w w' : World} {row : Option Nat} (h : w.grownBy w' row) {S : List Nat} (hS : ∀ k, row = some k → k ∈ S) : Chg S w w' :=
  ⟨h.os, h.tape, h.output, h.size, fun k hk ho => h.block k hk (fun e => ho.mem k (hS k e.symm) rfl)⟩
theorem Chg.hp {S : List Nat} {w w' : World} (h : Chg S w w') {k : Nat} {o : Obj} (hk : w.heap[k]? = some o) (ho : Off k S) : w'.heap[k]? = some o := (h.block k (Array.getElem?_eq_some_iff.1 hk).1 ho).trans hk
theorem Chg.cell {S : List Nat} {w w' : World} (h : Chg S w w') {g o : Nat} {v : Value} (hc : w.cell? ⟨g, o, none⟩ = some v) (ho : Off g S) : w'.cell? ⟨g, o, none⟩ = some v :=
  (World.cell?_of_block (w := w) (a := ⟨g, o, none⟩) (h.block g (World.block_lt_of_cell? w ⟨g, o, none⟩ hc) ho)).trans hc
theorem Chg.range {S : List Nat} {w w' : World} (h : Chg S w w') {g o : Nat} {cs : List Value} (hr : w.rangeAt g o cs) (ho : Off g S) : w'.rangeAt g o cs := fun j v hv => h.cell (hr j v hv) ho
/-- Each of T is one of S, or at least B. -/
def NewOr (B : Nat) (S : List Nat) : List Nat → Prop
  | [] => True
  | t :: T => (t ∈ S ∨ B ≤ t) ∧ NewOr B S T
theorem Off.newOr {B k : Nat} (hk : k < B) {S : List Nat} (h : Off k S) : ∀ {T : List Nat}, NewOr B S T → Off k T
  | [], _ => trivial
  | t :: _, ⟨h1, h2⟩ => ⟨by
      rcases h1 with h1 | h1
      · exact h.mem t h1
      · omega, Off.newOr hk h h2⟩
/-- A change, and one more of the same blocks or of new ones. -/
theorem Chg.step {S T : List Nat} {a b c : World} (h : Chg S a b) (k : Chg T b c) (ht : NewOr a.heap.size S T) : Chg S a c :=
  ⟨k.os.trans h.os, k.tape.trans h.tape, k.output.trans h.output, Nat.le_trans h.size k.size, fun i hi ho => (k.block i (Nat.lt_of_lt_of_le hi h.size) (ho.newOr hi ht)).trans (h.block i hi ho)⟩
/-- The blocks that an append may write. -/
def blk (v : Value) : List Nat := match v.ownBlock with
  | some g => [g]
  | none => []
theorem mem_blk {v : Value} {k : Nat} (h : v.ownBlock = some k) : k ∈ blk v := by simp [blk, h]
theorem off_blk {v : Value} {k : Nat} (h : ∀ g, v.ownBlock = some g → k ≠ g) : Off k (blk v) := by
  unfold blk
  split
  · rename_i g hg
    exact ⟨h g hg, trivial⟩
  · trivial
theorem newOr_blk {B : Nat} {S : List Nat} {v : Value} (h : ∀ g, v.ownBlock = some g → B ≤ g) : NewOr B S (blk v) := by
  unfold blk
  split
  · rename_i g hg
    exact ⟨.inr (h g hg), trivial⟩
  · trivial
theorem range_row {w : World} {g : Nat} {cs : Array Value} {t : TypeId} {fr : Nat × Nat} (h : w.heap[g]? = some (.cells cs t fr)) : w.rangeAt g 0 cs.toList := fun j v hv => by
  rw [Nat.zero_add, cell_of_row w g j cs t fr h]
  simpa using hv
theorem range_sub {w : World} {g : Nat} {cs : Array Value} {t : TypeId} {fr : Nat × Nat} (o : Nat) (sub : List Value) (h : w.heap[g]? = some (.cells cs t fr)) (e : (cs.toList.drop o).take sub.length = sub) : w.rangeAt g o sub := fun j v hv => by
  rw [cell_of_row w g (o + j) cs t fr h]
  have hj := (List.getElem?_eq_some_iff.1 hv).1
  rw [← e, List.getElem?_take, if_pos (by omega), List.getElem?_drop] at hv
  simpa using hv
theorem new_ex {P : Program} {w : World} {s : Sem Next} (v : Value) (cs : Array Value) (t : TypeId) (h : s.run P w = .ok (.value v) (w.alloc (.cells cs t))) :
    ∃ v1 w1, s.run P w = .ok (.value v1) w1 ∧ v1 = v ∧ w1.heap[w.heap.size]? = some (.cells cs t (0, 0)) ∧ Chg [] w w1 ∧ w.heap.size < w1.heap.size :=
  ⟨v, _, h, rfl, heap_alloc_new w _, Chg.alloc w _, by simp⟩
/-- A region that draws its order, its world named anew. -/
theorem dReg {P : Program} {id : Nat} {ops : Array Oper} {Q : Exit → Act → World → Prop} {a : Act} {w : World} (S : List Nat) (hm : P.follows .mixedOrders = true)
    (h : ∀ w1, Chg [] w w1 → w1.heap.size = w.heap.size → wpAnyH P .any ops Q (fun w' => Chg S w1 w') ops.size (Array.replicate ops.size false) a w1) : (Code.region id ops true).wp P Q a w :=
  wp_region_held (S := fun w' => Chg S w.drew w') hm (h w.drew (Chg.drew w) rfl)
/-- A slice of n things of sz cells each, read. -/
def Sl (w : World) (A : Option Addr) (n sz : Nat) (cs : List Value) : Prop := cs.length = n * sz ∧ (cs ≠ [] → ∃ g off, A = some ⟨g, off, none⟩ ∧ w.rangeAt g off cs)
theorem Sl.nil (w : World) (A : Option Addr) (sz : Nat) : Sl w A 0 sz [] := ⟨by simp, fun h => absurd rfl h⟩
theorem Sl.chg {S : List Nat} {w w' : World} {A : Option Addr} {n sz : Nat} {cs : List Value} (h : Sl w A n sz cs) (c : Chg S w w') (ho : ∀ g off, A = some ⟨g, off, none⟩ → g < w.heap.size → Off g S) : Sl w' A n sz cs :=
  ⟨h.1, fun hn => by
    obtain ⟨g, off, e, hr⟩ := h.2 hn
    have hlt : g < w.heap.size := by
      rcases cs with _ | ⟨v, cs⟩
      · exact absurd rfl hn
      · exact World.block_lt_of_cell? w ⟨g, off + 0, none⟩ (hr 0 v rfl)
    exact ⟨g, off, e, c.range hr (ho g off e hlt)⟩⟩
theorem Sl.below {w w' : World} {A : Option Addr} {n sz : Nat} {cs : List Value} (h : Sl w A n sz cs) (b : Below w.heap.size w w') : Sl w' A n sz cs := h.chg (Chg.ofBelow b) fun _ _ _ _ => trivial
theorem Sl.cell {w : World} {g off n sz : Nat} {cs : List Value} (h : Sl w (some ⟨g, off, none⟩) n sz cs) {j : Nat} {v : Value} (hv : cs[j]? = some v) : w.cell? ⟨g, off + j, none⟩ = some v := by
  obtain ⟨g', off', e, hr⟩ := h.2 (by rintro rfl; simp at hv)
  injection e with e
  injection e with e1 e2
  subst e1 e2
  exact hr j v hv
section runs
variable {P : Program} {a : Act} {o : Oper} {w : World}
theorem index_sl (t e : TypeId) (x y : Operand) (ho : o.op = .indexAddr t x y) (ht : P.underlying t = some (.slice e)) (sz : Nat) (hsz : (P.info? e).map (·.size) = some sz) (g off n c i : Nat) (k : IntKind) (hx : a.eval x = .slice (some ⟨g, off, none⟩) n c)
    (hy : a.eval y = .int k (i : Int)) (hlt : i < n) : (execOp a.eval o).run P w = .ok (.value (.pointer (some ⟨g, off + i * sz, none⟩))) w := by
  obtain ⟨inf, hi, hs⟩ := Option.map_eq_some_iff.1 hsz
  unfold execOp
  simp only [ho, hx, hy]
  have h1 : (0 : Int) ≤ (i : Int) ∧ (i : Int) < (n : Int) := by omega
  simp [Instr.indexAt, asIntOf, run_underlying ht, Go.sizeOf, typeInfo, hi, hs, hlt, Addr.add_mid]
theorem index_arr (t e : TypeId) (x y : Operand) (ho : o.op = .indexAddr t x y) (n : Nat) (ht : P.underlying t = some (.array n e)) (sz : Nat) (hsz : (P.info? e).map (·.size) = some sz) (g off i : Nat) (k : IntKind) (hx : a.eval x = .pointer (some ⟨g, off, none⟩))
    (hy : a.eval y = .int k (i : Int)) (hlt : i < n) : (execOp a.eval o).run P w = .ok (.value (.pointer (some ⟨g, off + i * sz, none⟩))) w := by
  obtain ⟨inf, hi, hs⟩ := Option.map_eq_some_iff.1 hsz
  unfold execOp
  simp only [ho, hx, hy]
  simp [Instr.indexAt, asIntOf, Instr.sureAddr, run_underlying ht, Go.sizeOf, typeInfo, hi, hs, hlt, Addr.add_mid]
/-- A load of one cell. -/
theorem load1 (ty : TypeId) (x : Operand) (ho : o.op = .load ty x) (hu : (match P.underlying ty with | some (.struct _) | some (.array _ _) | none => false | _ => true) = true) (ad : Addr) (hx : a.eval x = .pointer (some ad)) (v : Value) (hc : w.cell? ad = some v) :
    (execOp a.eval o).run P w = .ok (.value v) w := by
  unfold execOp
  simp only [ho, hx, Instr.loadAt, Instr.sureAddr, Sem.run_bind, Sem.run_pure, Result.andThen_ok, loadVar]
  have hb : (isAgg ty).run P w = .ok false w := by
    unfold isAgg
    cases h : P.underlying ty with
    | none => rw [h] at hu; cases hu
    | some d =>
      rw [h] at hu
      simp only [Sem.run_bind, run_underlying h, Result.andThen_ok]
      cases d <;> first | rfl | cases hu
  simp only [hb, Result.andThen_ok, Bool.false_eq_true, if_false]
  simp [load, Sem.run, hc]
/-- A load of a row in the midst of a block. -/
theorem loadR (ty : TypeId) (x : Operand) (ho : o.op = .load ty x) (d : TypeDesc) (hu : P.underlying ty = some d) (hd : d.isRow = true) (g off : Nat) (hx : a.eval x = .pointer (some ⟨g, off, none⟩)) (cs : List Value)
    (hi : (P.info? ty).map (·.size) = some cs.length) (hc : w.rangeAt g off cs) : (execOp a.eval o).run P w = .ok (.value (.agg cs.toArray)) w := by
  unfold execOp
  simp only [ho, hx, Sem.run_bind, run_loadAt_mid w g off ty cs d hc hu hd hi, Result.andThen_ok, Sem.run_pure]
/-- A store of one cell into a block of one's own. -/
theorem store1 (ty : TypeId) (x y : Operand) (ho : o.op = .store ty x y) (hi : (P.info? ty).map (·.size) = some 1) (g off : Nat) (hx : a.eval x = .pointer (some ⟨g, off, none⟩)) (v : Value) (hy : a.eval y = v) (h1 : v.oneCell' = true)
    (t : TypeId) (cs : Array Value) (hg : w.heap[g]? = some (.cells cs t (0, 0))) (hlt : off < cs.size) :
    ∃ w', (execOp a.eval o).run P w = .ok .skip w' ∧ w'.heap[g]? = some (.cells (cs.setIfInBounds off v) t (0, 0)) ∧ Chg [g] w w' := by
  refine ⟨w.setCell ⟨g, off, none⟩ v, ?_, heap_setCell_same w g off cs t v hg, ⟨rfl, rfl, rfl, by simp [World.setCell], fun k _ hk => Below.heap_setCell _ _ _ _ hk.1⟩⟩
  obtain ⟨inf, hinf, hs⟩ := Option.map_eq_some_iff.1 hi
  have hc : w.cell? ⟨g, off, none⟩ = some cs[off] := by rw [cell_of_row w g off cs t _ hg, Array.getElem?_eq_getElem hlt]
  have hz : w.frozen? ⟨g, off, none⟩ = false := frozen_of_row w g off cs t hg
  have hcells : v.cells = #[v] := by cases v <;> first | rfl | cases h1
  have hsz : (Go.sizeOf ty).run P w = .ok 1 w := by simp [Go.sizeOf, typeInfo, hinf, hs]
  have hst : (storeVar ty ⟨g, off, none⟩ v).run P w = .ok () (w.setCell ⟨g, off, none⟩ v) := by
    unfold storeVar
    rw [hcells]
    simp only [Sem.run_bind, hsz, Result.andThen_ok]
    rw [if_neg (by simp)]
    have := run_storeCells_cells (P := P) g off [v] 0 w (fun j hj => by obtain rfl : j = 0 := by simpa using hj
                                                                        simp [hc]) (fun j hj => by obtain rfl : j = 0 := by simpa using hj
                                                                                                   simpa using hz) (by simpa using h1)
    simpa [World.setCells] using this
  unfold execOp
  simp only [ho, hx, hy, Instr.storeAt, Instr.sureAddr, Sem.run_bind, Sem.run_pure, Result.andThen_ok, hst]
theorem setCells_chg (g : Nat) : ∀ (vs : List Value) (o : Nat) (w : World), Chg [g] w (w.setCells g o vs)
  | [], _, w => (Chg.refl w).more (by simp)
  | v :: vs, o, w => by
    have h1 : Chg [g] w (w.setCell ⟨g, o, none⟩ v) := ⟨rfl, rfl, rfl, by simp [World.setCell], fun k _ hk => Below.heap_setCell _ _ _ _ hk.1⟩
    exact (h1.trans (setCells_chg g vs (o + 1) _)).more (by simp)
theorem splice_set {α : Type} (cs : List α) (o : Nat) (v : α) (r : List α) (h : o < cs.length) : splice (cs.set o v) (o + 1) r = splice cs o (v :: r) := by
  unfold splice
  rw [List.take_set, List.take_succ_eq_append_getElem (by omega), List.drop_set_of_lt (by omega)]
  simp only [List.length_cons, List.cons_append]
  rw [List.set_append_right _ _ (by simp only [List.length_take]; omega)]
  simp only [List.length_take, Nat.min_eq_left (Nat.le_of_lt h), Nat.sub_self, List.set_cons_zero, List.append_assoc, List.cons_append, List.nil_append]
  rw [show o + 1 + r.length = o + (r.length + 1) by omega]
theorem heap_setCells (g : Nat) (t : TypeId) : ∀ (vs : List Value) (o : Nat) (w : World) (cs : List Value), w.heap[g]? = some (.cells cs.toArray t (0, 0)) → o + vs.length ≤ cs.length → (w.setCells g o vs).heap[g]? = some (.cells (splice cs o vs).toArray t (0, 0))
  | [], o, w, cs, h, hl => by
    have : splice cs o [] = cs := by simp [splice]
    rw [this]
    exact h
  | v :: vs, o, w, cs, h, hl => by
    simp only [List.length_cons] at hl
    have h1 := heap_setCell_same w g o cs.toArray t v h
    rw [List.setIfInBounds_toArray] at h1
    have h2 := heap_setCells g t vs (o + 1) (w.setCell ⟨g, o, none⟩ v) (cs.set o v) h1 (by simp; omega)
    rw [splice_set cs o v vs (by omega)] at h2
    exact h2
/-- A store of a row into a block of one's own. -/
theorem storeR (ty : TypeId) (x y : Operand) (ho : o.op = .store ty x y) (g off : Nat) (hx : a.eval x = .pointer (some ⟨g, off, none⟩)) (vs : List Value) (hy : a.eval y = .agg vs.toArray) (hi : (P.info? ty).map (·.size) = some vs.length) (h1 : ∀ v ∈ vs, v.oneCell' = true)
    (t : TypeId) (cs : List Value) (hg : w.heap[g]? = some (.cells cs.toArray t (0, 0))) (hlt : off + vs.length ≤ cs.length) :
    ∃ w', (execOp a.eval o).run P w = .ok .skip w' ∧ w'.heap[g]? = some (.cells (splice cs off vs).toArray t (0, 0)) ∧ Chg [g] w w' := by
  have hth : w.there g off vs.length := fun j hj => by
    refine ⟨?_, frozen_of_row w g _ _ t hg⟩
    rw [cell_of_row w g (off + j) _ t _ hg]
    simp only [List.getElem?_toArray]
    rw [List.getElem?_eq_getElem (by omega)]
    rfl
  refine ⟨w.setCells g off vs, ?_, ?_, ?_⟩
  · unfold execOp
    simp only [ho, hx, hy, Sem.run_bind, run_storeAt_mid w g off ty vs.toArray (by simpa using hth) (by simpa using hi) (all_oneCell_toArray h1), Result.andThen_ok, Sem.run_pure]
  · exact heap_setCells g t vs off w cs hg hlt
  · exact setCells_chg g vs off w
/-- append(v, xs...): v the call's own, xs what is read. -/
theorem append_run (s x : Operand) (t e : TypeId) (ho : o.op = .call { callee := .builtin .append, args := #[s, x], argTypes := #[t, t] }) (ht : P.underlying t = some (.slice e)) (z : Value) (sz bytes : Nat)
    (hinfo : (P.info? e).map (fun i => (i.zero, i.size, i.bytes)) = some (some z, sz, bytes)) (hz : z.cells.size = sz) (hsz : 0 < sz) (base : Nat) (v : Value) (n : Nat) (xs : List Value) (A : Option Addr) (m c : Nat) (ys : List Value) (hs : a.eval s = v) (hx : a.eval x = .slice A m c)
    (HO : w.ownsRow base e sz v n xs) (HR : Sl w A m sz ys) (hA : A = none → c = 0) (h1 : ∀ u ∈ ys, u.oneCell' = true) (hbase : base ≤ w.heap.size) (h63 : n + m ≤ maxLen) (hl : (n + m) * bytes ≤ 140737488355328) :
    ∃ v1 w1, (execOp a.eval o).run P w = .ok (.value v1) w1 ∧ w1.ownsRow base e sz v1 (n + m) (xs ++ ys) ∧ Chg (blk v) w w1 ∧ (v1.ownBlock = v.ownBlock ∨ v1.ownBlock = some w.heap.size) := by
  obtain ⟨i0, hi, hzz⟩ := Option.map_eq_some_iff.1 hinfo
  simp only [Prod.mk.injEq] at hzz
  obtain ⟨hz0, hz1, hz2⟩ := hzz
  have key : ∃ v1 w1, (Builtin.append_ #[t, t] o.type #[v, .slice A m c]).run P w = .ok v1 w1 ∧ w1.ownsRow base e sz v1 (n + m) (xs ++ ys) ∧ Chg (blk v) w w1 ∧ (v1.ownBlock = v.ownBlock ∨ v1.ownBlock = some w.heap.size) := by
    rcases A with _ | ad
    · have h0 : ys = [] := by
        rcases ys with _ | ⟨y, ys⟩
        · rfl
        · obtain ⟨g, off, h, _⟩ := HR.2 (by simp)
          cases h
      subst h0
      have hm : m = 0 := by
        have := HR.1
        simp only [List.length_nil] at this
        rcases Nat.eq_zero_or_pos m with h | h
        · exact h
        · have := Nat.mul_pos h hsz
          omega
      subst hm
      obtain rfl := hA rfl
      refine ⟨v, w, ?_, by simpa using HO, (Chg.refl w).more (by simp), .inl rfl⟩
      exact run_append_owned_none (P := P) (w := w) base t o.type e i0 sz ht hi v n xs HO
    · have hcells : ∀ j u, ys[j]? = some u → w.cell? (ad.add j) = some u := by
        intro j u hu
        obtain ⟨g, off, h', hc⟩ := HR.2 (by rintro rfl; simp at hu)
        injection h' with h'
        subst h'
        rw [Addr.add_mid]
        exact hc j u hu
      obtain ⟨v1, w1, hr, h2, h3, _, h5⟩ := run_append_own_at (P := P) w base t o.type e i0 z sz bytes ht hi hz0 hz1 hz2 hz hsz v n xs HO ad m c ys HR.1 hcells h1 h63 hl hbase
      exact ⟨v1, w1, hr, h2, Chg.grown h3 fun k hk => mem_blk hk, h5⟩
  obtain ⟨v1, w1, hr, h2, h3, h5⟩ := key
  refine ⟨v1, w1, ?_, h2, h3, h5⟩
  unfold execOp
  simp only [ho, resolve, invoke, builtin, Sem.run_bind, Sem.run_pure, Result.andThen_ok, List.map_toArray, List.map_cons, List.map_nil, hs, hx, hr]
end runs
theorem own_chg {w w' : World} {base : Nat} {e : TypeId} {sz : Nat} {v : Value} {n : Nat} {xs : List Value} {S : List Nat} (h : w.ownsRow base e sz v n xs) (c : Chg S w w') (ho : ∀ g, v.ownBlock = some g → base ≤ g → g < w.heap.size → Off g S) : w'.ownsRow base e sz v n xs := by
  obtain ⟨h1, h2⟩ := h
  refine ⟨h1, ?_⟩
  rcases h2 with h2 | ⟨g, cap, cur, hv, hg, hh, r⟩
  · exact .inl h2
  · exact .inr ⟨g, cap, cur, hv, hg, c.hp hh (ho g (by rw [hv]; rfl) hg (Array.getElem?_eq_some_iff.1 hh).1), r⟩
theorem own_sl {w : World} {base : Nat} {e : TypeId} {sz : Nat} {v : Value} {n : Nat} {xs : List Value} (h : w.ownsRow base e sz v n xs) : ∃ A c, v = .slice A n c ∧ n ≤ c ∧ c ≤ maxLen ∧ (A = none → c = 0) ∧ Sl w A n sz xs ∧ ∀ g off, A = some ⟨g, off, none⟩ → base ≤ g ∧ g < w.heap.size := by
  obtain ⟨h1, h2⟩ := h
  rcases h2 with ⟨rfl, rfl⟩ | ⟨g, cap, cur, rfl, hb, hg, hnc, hcm, hcs, ht⟩
  · obtain rfl : xs = [] := List.eq_nil_of_length_eq_zero (by simpa using h1)
    exact ⟨none, 0, rfl, Nat.le_refl _, by unfold maxLen; omega, fun _ => rfl, Sl.nil _ _ _, fun g off h => by cases h⟩
  · refine ⟨_, cap, rfl, hnc, hcm, (fun h => by cases h), ⟨h1, fun _ => ⟨g, 0, rfl, fun j u hu => ?_⟩⟩, fun g' off h => ?_⟩
    · rw [Nat.zero_add, cell_of_row w g j cur e _ hg, ← ht] at *
      rw [List.getElem?_take] at hu
      split at hu
      · rw [← hu, Array.getElem?_toList]
      · cases hu
    · injection h with h
      injection h with h1 h2
      subst h1
      exact ⟨hb, (Array.getElem?_eq_some_iff.1 hg).1⟩
theorem own_some {w : World} {base : Nat} {e : TypeId} {sz : Nat} {A : Option Addr} {c n : Nat} {xs : List Value} (h : w.ownsRow base e sz (.slice A n c) n xs) (hn : 0 < n) : ∃ g, A = some ⟨g, 0, none⟩ ∧ Sl w (some ⟨g, 0, none⟩) n sz xs := by
  obtain ⟨A', c', e1, _, _, _, hs, _⟩ := own_sl h
  injection e1 with e1 e2 e3
  subst e1
  rcases h.2 with ⟨h1, h2⟩ | ⟨g, cap, cur, h1, _⟩
  · omega
  · injection h1 with h1
    subst h1
    exact ⟨g, rfl, hs⟩
end Wk
namespace Wk
open Go Go.RowKit
/-- A remainder of two natural numbers. -/
theorem rem_nat {P : Program} {w : World} {a : Act} {o : Oper} (t ty : TypeId) (x y : Operand) (ho : o.op = .binOp .rem t x y ty) (i n : Nat) (hx : a.eval x = .int .i64 (i : Int)) (hy : a.eval y = .int .i64 (n : Int)) (hn : 0 < n) :
    (execOp a.eval o).run P w = .ok (.value (.int .i64 ((i % n : Nat) : Int))) w := by
  have hne : ¬ n = 0 := by omega
  unfold execOp
  simp only [ho, hx, hy]
  simp [eqGuard, binOp, Op.intDiv, hne, Int.tmod_eq_emod_of_nonneg (show (0 : Int) ≤ (i : Int) by omega)]
end Wk
namespace Mur
open Go Go.RowKit Wk
structure Fil where
  b : List UInt8
  n : Nat
structure Dk where
  x : Fil
  y : Fil
def Fil.ok (z : Fil) : Prop := z.n ≤ z.b.length ∧ z.b.length ≤ 1048576
def Dk.fil (d : Dk) (f : Int) : Fil := if f = 0 then d.x else d.y
def Dk.put (d : Dk) (f : Int) (z : Fil) : Dk := if f = 0 then ⟨z, d.y⟩ else if f = 1 then ⟨d.x, z⟩ else d
def hasF (f : Int) : Prop := f = 0 ∨ f = 1
instance (f : Int) : Decidable (hasF f) := by unfold hasF; infer_instance
def Dk.clear (d : Dk) (f : Int) : Dk := d.put f ⟨[], 0⟩
def Dk.bytes (d : Dk) (f : Int) : List UInt8 := if hasF f then (d.fil f).b else []
structure Dsk (e T : TypeId) (w : World) (g : Nat) (d : Dk) (vx vy : Value) : Prop where
  hp : w.heap[g]? = some (.cells #[vx, .int .i64 (d.x.n : Int), vy, .int .i64 (d.y.n : Int)] T (0, 0))
  ox : w.ownsRow (g + 1) e 1 vx d.x.b.length (b8s d.x.b)
  oy : w.ownsRow (g + 1) e 1 vy d.y.b.length (b8s d.y.b)
  ne : ∀ k, vx.ownBlock = some k → vy.ownBlock ≠ some k
  kx : d.x.ok
  ky : d.y.ok
def foot (g : Nat) (vx vy : Value) : List Nat := g :: (blk vx ++ blk vy)
theorem mem_blk_iff {v : Value} {k : Nat} : k ∈ blk v ↔ v.ownBlock = some k := by
  unfold blk
  split
  · rename_i h; rw [h]; simp [eq_comm]
  · rename_i h; rw [h]; simp
theorem newOr_iff {B : Nat} {S : List Nat} : ∀ {T : List Nat}, NewOr B S T ↔ ∀ t ∈ T, t ∈ S ∨ B ≤ t
  | [] => by simp [NewOr]
  | t :: T => by simp [NewOr, newOr_iff (T := T)]
theorem off_iff {k : Nat} : ∀ {T : List Nat}, Off k T ↔ ∀ t ∈ T, k ≠ t
  | [] => by simp [Off]
  | t :: T => by simp [Off, off_iff (T := T)]
section
variable {e T : TypeId} {w w' : World} {g : Nat} {d : Dk} {vx vy v' : Value}
theorem Dsk.bx (h : Dsk e T w g d vx vy) {k : Nat} (hk : vx.ownBlock = some k) : g < k ∧ k < w.heap.size := by
  refine ⟨?_, (World.ownsRow.lt h.ox k hk).2⟩
  rcases h.ox.2 with ⟨rfl, _⟩ | ⟨g', cap, cur, rfl, hb, _⟩
  · cases hk
  · obtain rfl : g' = k := by simpa [Value.ownBlock] using hk
    omega
theorem Dsk.by_ (h : Dsk e T w g d vx vy) {k : Nat} (hk : vy.ownBlock = some k) : g < k ∧ k < w.heap.size := by
  refine ⟨?_, (World.ownsRow.lt h.oy k hk).2⟩
  rcases h.oy.2 with ⟨rfl, _⟩ | ⟨g', cap, cur, rfl, hb, _⟩
  · cases hk
  · obtain rfl : g' = k := by simpa [Value.ownBlock] using hk
    omega
theorem Dsk.lt (h : Dsk e T w g d vx vy) : g < w.heap.size := (Array.getElem?_eq_some_iff.1 h.hp).1
theorem Dsk.mem (h : Dsk e T w g d vx vy) : ∀ s ∈ foot g vx vy, g ≤ s ∧ s < w.heap.size := by
  intro s hs
  have := h.lt
  rcases List.mem_cons.1 hs with rfl | hs
  · exact ⟨Nat.le_refl _, h.lt⟩
  · rcases List.mem_append.1 hs with hs | hs
    · have := h.bx (mem_blk_iff.1 hs); omega
    · have := h.by_ (mem_blk_iff.1 hs); omega
end
/-- A disk at g; F: the blocks that it may write. -/
structure DskF (e T : TypeId) (w : World) (g : Nat) (d : Dk) (F : List Nat) : Prop where
  out : ∃ vx vy, Dsk e T w g d vx vy ∧ F = foot g vx vy
section
variable {e T : TypeId} {w w' : World} {g : Nat} {d : Dk} {F : List Nat}
theorem DskF.mem (h : DskF e T w g d F) : ∀ s ∈ F, g ≤ s ∧ s < w.heap.size := by
  obtain ⟨vx, vy, q, rfl⟩ := h.out
  exact q.mem
theorem DskF.lt (h : DskF e T w g d F) : g < w.heap.size := by
  obtain ⟨vx, vy, q, rfl⟩ := h.out
  exact q.lt
theorem DskF.ok (h : DskF e T w g d F) : d.x.ok ∧ d.y.ok := by
  obtain ⟨vx, vy, q, rfl⟩ := h.out
  exact ⟨q.kx, q.ky⟩
theorem DskF.chg {S : List Nat} (h : DskF e T w g d F) (c : Chg S w w') (hs : ∀ s ∈ F, s < w.heap.size → Off s S) : DskF e T w' g d F := by
  obtain ⟨vx, vy, q, rfl⟩ := h.out
  refine ⟨vx, vy, ⟨c.hp q.hp (hs g (by simp [foot]) q.lt), own_chg q.ox c fun k hk _ hl => hs k ?_ hl, own_chg q.oy c fun k hk _ hl => hs k ?_ hl, q.ne, q.kx, q.ky⟩, rfl⟩
  · simp [foot, mem_blk_iff.2 hk]
  · simp [foot, mem_blk_iff.2 hk]
end
theorem own_empty {w : World} {base e g : Nat} (h : w.heap[g]? = some (.cells #[] e (0, 0))) (hb : base ≤ g) : w.ownsRow base e 1 (.slice (some ⟨g, 0, none⟩) 0 0) 0 (b8s []) := ⟨rfl, .inr ⟨g, 0, #[], rfl, hb, h, Nat.le_refl _, by unfold maxLen; omega, rfl, rfl⟩⟩
theorem own_nil (w : World) (base e : Nat) : w.ownsRow base e 1 (.slice none 0 0) 0 (b8s []) := ⟨rfl, .inl ⟨rfl, rfl⟩⟩
/-- The string of some bytes. -/
def str (l : List UInt8) : ByteArray := ⟨l.toArray⟩
section
variable {P : Program} {w : World} {a : Act} {o : Oper}
theorem run_str (s t : TypeId) (x : Operand) (e : TypeId) (ho : o.op = .convert s t x) (hs : P.underlying s = some (.slice e)) (he : P.underlying e = some (.int .u8)) (ht : P.underlying t = some .string) (A : Option Addr) (n c : Nat) (l : List UInt8)
    (hx : a.eval x = .slice A n c) (hb : Byt w A n l) : (execOp a.eval o).run P w = .ok (.value (.string (str l))) w := by
  have key : (convert s t (.slice A n c)).run P w = .ok (.string (str l)) w := by
    rcases A with _ | ad
    · have h0 : l = [] := by
        rcases l with _ | ⟨y, l⟩
        · rfl
        · obtain ⟨g, off, h, _⟩ := hb.2 (by have := hb.1; simp at this; omega)
          cases h
      subst h0
      exact run_convert_bytes_nil w s e hs he n c t ht
    · obtain ⟨g, off, sp⟩ := ad
      have hcell : ∀ j (hj : j < l.length), w.cell? ((⟨g, off, sp⟩ : Addr).add j) = some (.int .u8 (l[j].toNat : Int)) := by
        intro j hj
        obtain ⟨g', off', h', hc⟩ := hb.2 (by have := hb.1; omega)
        injection h' with h'
        injection h' with h1 h2 h3
        subst h1 h2 h3
        rw [Addr.add_mid, hc j (by have := hb.1; omega)]
        simp [List.getD_eq_getElem?_getD, hj]
      have := run_convert_bytes_back (P := P) w s t e ⟨g, off, sp⟩ c l hs he ht hcell
      rw [hb.1] at this
      exact this
  unfold execOp
  simp only [ho, hx, Sem.run_bind, key, Result.andThen_ok, Sem.run_pure]
theorem own_le {base base' sz n : Nat} {e : TypeId} {v : Value} {xs : List Value} (h : w.ownsRow base e sz v n xs) (hb : base' ≤ base) : w.ownsRow base' e sz v n xs :=
  ⟨h.1, h.2.elim Or.inl (fun ⟨g, cap, cur, hv, hg, r⟩ => Or.inr ⟨g, cap, cur, hv, Nat.le_trans hb hg, r⟩)⟩
theorem byt_row {g : Nat} {t : TypeId} {fr : Nat × Nat} (l : List UInt8) (h : w.heap[g]? = some (.cells (b8s l).toArray t fr)) : Byt w (some ⟨g, 0, none⟩) l.length l := ⟨rfl, fun _ => ⟨g, 0, rfl, fun j hj => by rw [Nat.zero_add]; exact cell_b8s h hj⟩⟩
theorem byt_sl {A : Option Addr} {n : Nat} {l : List UInt8} (h : Byt w A n l) : Sl w A n 1 (b8s l) := ⟨by rw [b8s_length, h.1, Nat.mul_one], fun hn => by
  have hp : 0 < n := by
    rcases l with _ | ⟨y, l⟩
    · exact absurd rfl hn
    · have := h.1; simp at this; omega
  obtain ⟨g, off, e, hc⟩ := h.2 hp
  refine ⟨g, off, e, fun j u hu => ?_⟩
  have hj : j < l.length := by
    have := (List.getElem?_eq_some_iff.1 hu).1
    simpa [b8s_length] using this
  rw [b8s_get l j hj] at hu
  injection hu with hu
  subst hu
  exact hc j (by have := h.1; omega)⟩
theorem byt_chg {S : List Nat} {w' : World} {A : Option Addr} {n : Nat} {l : List UInt8} (h : Byt w A n l) (c : Chg S w w') (ho : ∀ g off, A = some ⟨g, off, none⟩ → g < w.heap.size → Off g S) : Byt w' A n l := ⟨h.1, fun hp => by
  obtain ⟨g, off, e, hc⟩ := h.2 hp
  have hlt : g < w.heap.size := World.block_lt_of_cell? w ⟨g, off + 0, none⟩ (hc 0 hp)
  exact ⟨g, off, e, fun j hj => c.cell (hc j hj) (ho g off e hlt)⟩⟩
end
end Mur
namespace Mur
open Go Go.RowKit Wk
section
set_option linter.unusedSimpArgs false
variable {P : Program} {w : World} {a : Act} {o : Oper}
theorem str_toList (l : List UInt8) : (str l).toList = l := by rw [Go.ByteArray.toList_eq]; simp [str]
end
end Mur
namespace Mur
open Go Go.RowKit Wk
section
variable {P : Program} {w : World} {a : Act} {o : Oper}
theorem blk_cell {g : Nat} {t : TypeId} {fr : Nat × Nat} (l : List UInt8) (h : w.heap[g]? = some (.cells (b8s l).toArray t fr)) (j : Nat) (hj : j < l.length) : w.cell? ⟨g, 0 + j * 1, none⟩ = some (.int .u8 (((l.getD j 0).toNat : Nat) : Int)) := by
  rw [Nat.zero_add, Nat.mul_one]
  exact cell_b8s h hj
theorem byt_cell {g off n : Nat} {l : List UInt8} (h : Byt w (some ⟨g, off, none⟩) n l) (j : Nat) (hj : j < n) : w.cell? ⟨g, off + j * 1, none⟩ = some (.int .u8 (((l.getD j 0).toNat : Nat) : Int)) := by
  obtain ⟨g', off', e, hc⟩ := h.2 (by omega)
  injection e with e
  injection e with e1 e2
  subst e1 e2
  rw [Nat.mul_one]
  exact hc j hj
theorem byt_blk {g n : Nat} {t : TypeId} {fr : Nat × Nat} (l : List UInt8) (hl : l.length = n) (h : w.heap[g]? = some (.cells (b8s l).toArray t fr)) : Byt w (some ⟨g, 0, none⟩) n l := hl ▸ byt_row l h
/-- A whole row stored. -/
theorem storeAll (ty : TypeId) (x y : Operand) (ho : o.op = .store ty x y) (g : Nat) (hx : a.eval x = .pointer (some ⟨g, 0, none⟩)) (l : List UInt8) (n : Nat) (hl : l.length = n) (hy : a.eval y = .agg (b8s l).toArray) (hi : (P.info? ty).map (·.size) = some n)
    (t : TypeId) (cs : Array Value) (hg : w.heap[g]? = some (.cells cs t (0, 0))) (hn : cs.size = n) :
    ∃ w', (execOp a.eval o).run P w = .ok .skip w' ∧ w'.heap[g]? = some (.cells (b8s l).toArray t (0, 0)) ∧ Chg [g] w w' := by
  obtain ⟨w', h1, h2, h3⟩ := storeR (P := P) ty x y ho g 0 hx (b8s l) hy (by rw [hi, b8s_length, hl]) (b8s_one l) t cs.toList (by simpa using hg) (by rw [b8s_length, hl, Array.length_toList, hn]; omega)
  refine ⟨w', h1, ?_, h3⟩
  rw [h2]
  congr 2
  have hdrop : cs.toList.drop (0 + (b8s l).length) = [] := List.drop_of_length_le (by rw [b8s_length, hl, Array.length_toList, hn]; omega)
  unfold splice
  rw [hdrop]
  simp
/-- A whole row loaded. -/
theorem loadAll (ty : TypeId) (x : Operand) (ho : o.op = .load ty x) (d : TypeDesc) (hu : P.underlying ty = some d) (hd : d.isRow = true) (g : Nat) (hx : a.eval x = .pointer (some ⟨g, 0, none⟩)) (l : List UInt8) (n : Nat) (hl : l.length = n)
    (hi : (P.info? ty).map (·.size) = some n) (t : TypeId) (fr : Nat × Nat) (hg : w.heap[g]? = some (.cells (b8s l).toArray t fr)) : (execOp a.eval o).run P w = .ok (.value (.agg (b8s l).toArray)) w :=
  loadR ty x ho d hu hd g 0 hx (b8s l) (by rw [hi, b8s_length, hl]) (range_row hg)
/-- An array as a slice. -/
theorem arr_slice (t e : TypeId) (x : Operand) (n : Nat) (ho : o.op = .slice t x none none none) (ht : P.underlying t = some (.array n e)) (hsz : (P.info? e).map (·.size) = some 1) (g : Nat) (hx : a.eval x = .pointer (some ⟨g, 0, none⟩)) :
    (execOp a.eval o).run P w = .ok (.value (.slice (some ⟨g, 0, none⟩) n n)) w := by
  obtain ⟨i, hi, hs⟩ := Option.map_eq_some_iff.1 hsz
  unfold execOp
  simp only [ho, hx, Option.map_none]
  have e0 : (⟨g, 0, none⟩ : Addr).add 0 = ⟨g, 0, none⟩ := Addr.add_mid g 0 0
  simp [Instr.sliceAt, Instr.slice, Instr.sureAddr, run_underlying ht, Instr.sliceBounds, Go.sizeOf, typeInfo, hi, e0]
/-- append of bytes to a slice of one's own. -/
structure Own8 (w : World) (base e : Nat) (A : Option Addr) (n c : Nat) (l : List UInt8) : Prop where
  own : w.ownsRow base e 1 (.slice A n c) n (b8s l)
  nc : n ≤ c
  cm : c ≤ maxLen
  nil : A = none → c = 0
  byt : Byt w A n l
  at_ : ∀ g off, A = some ⟨g, off, none⟩ → base ≤ g ∧ g < w.heap.size
  lt : ∀ k, (Value.slice A n c).ownBlock = some k → base ≤ k ∧ k < w.heap.size
theorem own8 {base e n : Nat} {A : Option Addr} {c : Nat} {l : List UInt8} (h : w.ownsRow base e 1 (.slice A n c) n (b8s l)) : Own8 w base e A n c l := by
  obtain ⟨A1, c1, e1, h1, h2, h3⟩ := own_byt h
  injection e1 with e1 _ e2
  subst e1 e2
  obtain ⟨A2, c2, e3, _, _, h4, _, h5⟩ := own_sl h
  injection e3 with e3 _ e4
  subst e3 e4
  exact ⟨h, h1, h2, h4, h3, h5, World.ownsRow.lt h⟩
theorem append8 (s x : Operand) (t e : TypeId) (ho : o.op = .call { callee := .builtin .append, args := #[s, x], argTypes := #[t, t] }) (ht : P.underlying t = some (.slice e)) (hinfo : (P.info? e).map (fun i => (i.zero, i.size, i.bytes)) = some (some (.int .u8 0), 1, 1))
    (base : Nat) (A0 : Option Addr) (n c0 : Nat) (xs : List UInt8) (A : Option Addr) (m c : Nat) (ys : List UInt8) (hs : a.eval s = .slice A0 n c0) (hx : a.eval x = .slice A m c) (HO : w.ownsRow base e 1 (.slice A0 n c0) n (b8s xs)) (HR : Byt w A m ys) (hA : A = none → c = 0)
    (hbase : base ≤ w.heap.size) (hl : n + m ≤ 140737488355328) (k : Nat) (hk : n + m = k) (zs : List UInt8) (hz : xs ++ ys = zs) :
    ∃ v1 w1, (execOp a.eval o).run P w = .ok (.value v1) w1 ∧ ∃ A1 c1, v1 = .slice A1 k c1 ∧ Own8 w1 base e A1 k c1 zs ∧ Chg (blk (.slice A0 n c0)) w w1 ∧ (∀ q, (Value.slice A1 k c1).ownBlock = some q → (Value.slice A0 n c0).ownBlock = some q ∨ q = w.heap.size) := by
  subst hk hz
  obtain ⟨v1, w1, h1, h2, h3, h4⟩ := append_run (P := P) s x t e ho ht (.int .u8 0) 1 1 hinfo rfl (by omega) base (.slice A0 n c0) n (b8s xs) A m c (b8s ys) hs hx HO (byt_sl HR) hA (b8s_one ys) hbase (by unfold maxLen; omega) (by omega)
  rw [← b8s_append] at h2
  obtain ⟨A1, c1, rfl, _⟩ := own_byt h2
  refine ⟨_, w1, h1, A1, c1, rfl, own8 h2, h3, fun q hq => ?_⟩
  rcases h4 with h4 | h4
  · exact .inl (h4 ▸ hq)
  · rw [h4] at hq
    exact .inr (Option.some.inj hq).symm
theorem Own8.chg {w' : World} {base e n c : Nat} {A : Option Addr} {l : List UInt8} {S : List Nat} (h : Own8 w base e A n c l) (ch : Chg S w w') (ho : ∀ g, base ≤ g → g < w.heap.size → Off g S) : Own8 w' base e A n c l :=
  own8 (own_chg h.own ch fun g _ h1 h2 => ho g h1 h2)
theorem own8_empty {base e g : Nat} (h : w.heap[g]? = some (.cells #[] e (0, 0))) (hb : base ≤ g) : Own8 w base e (some ⟨g, 0, none⟩) 0 0 [] := own8 (own_empty h hb)
theorem own8_nil (w : World) (base e : Nat) : Own8 w base e none 0 0 [] := own8 (own_nil w base e)
end
/-- A slice of bytes. -/
structure Seg where
  A : Option Addr
  n : Nat
  c : Nat
  l : List UInt8
def Seg.v (s : Seg) : Value := .slice s.A s.n s.c
structure SegOk (w : World) (s : Seg) : Prop where
  nc : s.n ≤ s.c
  nil : s.A = none → s.c = 0
  byt : Byt w s.A s.n s.l
  cm : s.c ≤ maxLen
/-- A slice of slices of bytes. -/
structure Segs (w : World) (A : Option Addr) (n : Nat) (L : List Seg) : Prop where
  len : L.length = n
  ok : ∀ s ∈ L, SegOk w s
  cells : 0 < n → ∃ g off, A = some ⟨g, off, none⟩ ∧ ∀ i s, L[i]? = some s → w.cell? ⟨g, off + i, none⟩ = some s.v
theorem SegOk.chg {w w' : World} {s : Seg} (h : SegOk w s) (c : Chg [] w w') : SegOk w' s := ⟨h.1, h.2, byt_chg h.3 c fun _ _ _ _ => trivial, h.4⟩
theorem Segs.chg {w w' : World} {A : Option Addr} {n : Nat} {L : List Seg} (h : Segs w A n L) (c : Chg [] w w') : Segs w' A n L :=
  ⟨h.1, fun s hs => (h.2 s hs).chg c, fun hn => by
    obtain ⟨g, off, e, hc⟩ := h.3 hn
    exact ⟨g, off, e, fun i s hi => c.cell (hc i s hi) trivial⟩⟩
/-- All their bytes. -/
def flat (L : List Seg) : List UInt8 := L.flatMap (·.l)
theorem flat_take {L : List Seg} {i : Nat} {s : Seg} (h : L[i]? = some s) : flat (L.take (i + 1)) = flat (L.take i) ++ s.l := by
  have hi : i < L.length := (List.getElem?_eq_some_iff.1 h).1
  have he : L[i] = s := (List.getElem?_eq_some_iff.1 h).2
  rw [List.take_succ_eq_append_getElem hi, he]
  simp [flat]
theorem flat_take_le {L : List Seg} (i : Nat) : (flat (L.take i)).length ≤ (flat L).length := by
  have : flat L = flat (L.take i) ++ flat (L.drop i) := by rw [flat, flat, flat, ← List.flatMap_append, List.take_append_drop]
  rw [this, List.length_append]
  omega
theorem flat_all {L : List Seg} {n : Nat} (h : L.length = n) : flat (L.take n) = flat L := by rw [List.take_of_length_le (by omega)]
theorem Segs.at {w : World} {A : Option Addr} {n : Nat} {L : List Seg} (h : Segs w A n L) {k : Nat} (hk : k < n) : ∃ g off As ns cs ls, A = some ⟨g, off, none⟩ ∧ g < w.heap.size ∧ w.cell? ⟨g, off + k * 1, none⟩ = some (.slice As ns cs) ∧ Byt w As ns ls ∧ ns ≤ cs ∧ cs ≤ maxLen ∧ (As = none → cs = 0) ∧
    flat (L.take (k + 1)) = flat (L.take k) ++ ls ∧ (flat (L.take k)).length + ns ≤ (flat L).length := by
  obtain ⟨g, off, rfl, hc⟩ := h.3 (by omega)
  obtain ⟨x, hx⟩ : ∃ x, L[k]? = some x := ⟨_, List.getElem?_eq_getElem (by have := h.1; omega)⟩
  have hok := h.2 x (List.mem_of_getElem? hx)
  have q := hc k x hx
  have hf := flat_take hx
  have hle := flat_take_le (L := L) (k + 1)
  have hl := hok.byt.1
  rw [hf, List.length_append, hl] at hle
  exact ⟨g, off, x.A, x.n, x.c, x.l, rfl, World.block_lt_of_cell? w ⟨g, off + k, none⟩ q, by rw [Nat.mul_one]; exact q, hok.byt, hok.nc, hok.cm, hok.nil, hf, hle⟩
end Mur
namespace Mur
open Go Go.RowKit Go.WideShapes Go.ChangeShapes
section
variable {H : Type} {enc : TypeId × Value → H} {P : Program} {W : World}
/-- A row of n bytes that comes in. -/
theorem leaf_u8 {t : TypeId} {v : Value} (ht : P.underlying t = some (.int .u8)) {w : World} (h : Leaf enc P w 0 (fun _ => true) true t v) : ∃ b : UInt8, v = .int .u8 (b.toNat : Int) := by
  obtain ⟨z, rfl, hwf⟩ := leaf_int ht h
  have h1 : IntKind.u8.min = 0 := by decide
  have h2 : IntKind.u8.max = 255 := by decide
  simp only [Lit.wf, h1, h2, Bool.and_eq_true, decide_eq_true_eq] at hwf
  exact ⟨UInt8.ofNat z.toNat, by simp; omega⟩
theorem leaf_u8s {t : TypeId} (ht : P.underlying t = some (.int .u8)) {w : World} : ∀ (n : Nat) (cs : List Value), All2 (Leaf enc P w 0 (fun _ => true) true) (List.replicate n t) cs → ∃ l : List UInt8, l.length = n ∧ cs = b8s l
  | 0, cs, h => by
    cases h
    exact ⟨[], rfl, rfl⟩
  | n + 1, cs, h => by
    rw [List.replicate_succ] at h
    rcases h with _ | ⟨h0, h⟩
    obtain ⟨b, rfl⟩ := leaf_u8 ht h0
    obtain ⟨l, h1, rfl⟩ := leaf_u8s ht n _ h
    exact ⟨b :: l, by simp [h1], rfl⟩
end
end Mur
namespace Go.Proofs.YtfhneademopciaaDoor
end Go.Proofs.YtfhneademopciaaDoor
namespace Mur
open Go Go.RowKit Wk
/-- An op: what it is, its file, its bytes, what a crash keeps. -/
structure Dop where
  kd : Int
  f : Int
  A : Option Addr
  m : Nat
  c : Nat
  b : List UInt8
  k0 : Int
  k1 : Int
def Dop.cells (x : Dop) : List Value := [.int .i64 x.kd, .int .i64 x.f, .slice x.A x.m x.c, .int .i64 x.k0, .int .i64 x.k1]
structure Dop.Ok (w : World) (x : Dop) : Prop where
  byt : Byt w x.A x.m x.b
  nc : x.m ≤ x.c
  cm : x.c ≤ 9223372036854775807
  nil : x.A = none → x.c = 0
def Dops (w : World) (A : Option Addr) (n : Nat) (L : List Dop) : Prop :=
  L.length = n ∧ (∀ x ∈ L, x.Ok w) ∧ (0 < n → ∃ g off, A = some ⟨g, off, none⟩ ∧ ∀ i x, L[i]? = some x → w.rangeAt g (off + i * 5) x.cells)
theorem Dops.at {w : World} {A : Option Addr} {n : Nat} {L : List Dop} (h : Dops w A n L) {k : Nat} (hk : k < n) : ∃ g off kd f B mb cb bs k0 k1, A = some ⟨g, off, none⟩ ∧ g < w.heap.size ∧ w.rangeAt g (off + k * 5) [.int .i64 kd, .int .i64 f, .slice B mb cb, .int .i64 k0, .int .i64 k1] ∧ Byt w B mb bs ∧ mb ≤ cb ∧ cb ≤ 9223372036854775807 ∧ (B = none → cb = 0) := by
  obtain ⟨h1, h2, h3⟩ := h
  obtain ⟨g, off, rfl, hc⟩ := h3 (by omega)
  obtain ⟨x, hx⟩ : ∃ x, L[k]? = some x := ⟨_, List.getElem?_eq_getElem (by omega)⟩
  have hok := h2 x (List.mem_of_getElem? hx)
  have q := hc k x hx
  have hg : g < w.heap.size := World.block_lt_of_cell? w ⟨g, off + k * 5 + 0, none⟩ (q 0 (.int .i64 x.kd) rfl)
  exact ⟨g, off, x.kd, x.f, x.A, x.m, x.c, x.b, x.k0, x.k1, rfl, hg, q, hok.byt, hok.nc, hok.cm, hok.nil⟩
end Mur
namespace Mur
end Mur
namespace Mur
open Go Go.RowKit Wk
/-- No block of both. -/
def Dj (F G : List Nat) : Prop := ∀ s ∈ F, s ∉ G
theorem Dj.off1 {F G : List Nat} (h : Dj F G) {s : Nat} (hs : s ∈ G) : Off s F := off_iff.2 fun _ ht e => h _ ht (e ▸ hs)
theorem Dj.off2 {F G : List Nat} (h : Dj F G) {s : Nat} (hs : s ∈ F) : Off s G := off_iff.2 fun _ ht e => h s hs (e ▸ ht)
section
variable {P : Program} {w : World} {a : Act} {o : Oper}
/-- An int as a uint64. -/
theorem to_u64 (s t : TypeId) (x : Operand) (ho : o.op = .convert s t x) (hs : (P.underlying s).isSome = true) (ht : P.underlying t = some (.int .u64)) (k : IntKind) (z : Int) (hx : a.eval x = .int k z) :
    ∃ v w1, (execOp a.eval o).run P w = .ok (.value v) w1 ∧ ∃ u : Nat, v = .int .u64 (u : Int) ∧ w = w1 ∧ (u : Int) = IntKind.u64.wrap z := by
  have h0 : 0 ≤ IntKind.u64.wrap z := by
    simp only [IntKind.wrap]
    exact Int.emod_nonneg _ (by decide)
  have hk : P.intKind t = .u64 := by simp [Program.intKind, ht]
  refine ⟨_, w, ?_, (IntKind.u64.wrap z).toNat, rfl, rfl, Int.toNat_of_nonneg h0⟩
  have key : (convert s t (.int k z)).run P w = .ok (.int .u64 (IntKind.u64.wrap z)) w := by
    have := run_convert_int (P := P) (w := w) s t k z hs (by rw [ht, hk])
    rw [this, hk]
  unfold execOp
  simp only [ho, hx, Sem.run_bind, key, Result.andThen_ok, Sem.run_pure, Int.toNat_of_nonneg h0]
theorem conv_int (s t : TypeId) (x : Operand) (ho : o.op = .convert s t x) (hs : (P.underlying s).isSome = true) (k' : IntKind) (ht : P.underlying t = some (.int k')) (k : IntKind) (z : Int) (hx : a.eval x = .int k z) (hz : k'.wrap z = z) :
    (execOp a.eval o).run P w = .ok (.value (.int k' z)) w := by
  have hk : P.intKind t = k' := by simp [Program.intKind, ht]
  have key : (convert s t (.int k z)).run P w = .ok (.int k' z) w := by
    have := run_convert_int (P := P) (w := w) s t k z hs (by rw [ht, hk])
    rw [this, hk, hz]
  unfold execOp
  simp only [ho, hx, Sem.run_bind, key, Result.andThen_ok, Sem.run_pure]
theorem u64_nat {n : Nat} (h : n < 18446744073709551616) : IntKind.u64.wrap (n : Int) = (n : Int) := by
  have h1 : IntKind.u64.wrap (n : Int) = (n : Int) % 18446744073709551616 := rfl
  rw [h1, Int.emod_eq_of_lt (by omega) (by omega)]
theorem i64_nat {n : Nat} (h : n < 9223372036854775808) : IntKind.i64.wrap (n : Int) = (n : Int) := IntWalk.i64_in _ ⟨by omega, by omega⟩
/-- A remainder of two unsigned numbers. -/
theorem rem_u64 (t ty : TypeId) (x y : Operand) (ho : o.op = .binOp .rem t x y ty) (i n : Nat) (hx : a.eval x = .int .u64 (i : Int)) (hy : a.eval y = .int .u64 (n : Int)) (hn : 0 < n) :
    (execOp a.eval o).run P w = .ok (.value (.int .u64 ((i % n : Nat) : Int))) w := by
  have hne : ¬ n = 0 := by omega
  unfold execOp
  simp only [ho, hx, hy]
  simp [eqGuard, binOp, Op.intDiv, hne, Int.tmod_eq_emod_of_nonneg (show (0 : Int) ≤ (i : Int) by omega)]
theorem run_op_from (t : TypeId) (x y : Operand) (ho : o.op = .slice t x (some y) none none) (e : TypeId) (ht : P.underlying t = some (.slice e)) (hsz : (P.info? e).map (·.size) = some 1) (A : Option Addr) (n c l : Nat)
    (hx : a.eval x = .slice A n c) (hy : a.eval y = .int .i64 (l : Int)) (hl : l ≤ n) (hnc : n ≤ c) : (execOp a.eval o).run P w = .ok (.value (.slice (cutA A c l) (n - l) (c - l))) w := by
  unfold execOp
  simp only [ho, hx, hy, Option.map_some, Option.map_none, Sem.run_bind, run_cut_from t e ht hsz A n c l hl hnc, Result.andThen_ok, Sem.run_pure]
end
end Mur
namespace Mur
open Go Go.RowKit Wk
section
variable {P : Program}
theorem run_eql_no {T e : TypeId} (h : DigT P T e) (d d' : List UInt8) (hd : d.length = 32) (hd' : d'.length = 32) (he : ¬ d = d') (w : World) (x y : Operand) (ty : TypeId) {a : Act} {o : Oper} (ho : o.op = .binOp .eql T x y ty)
    (hx : a.eval x = .agg (b8s d).toArray) (hy : a.eval y = .agg (b8s d').toArray) : (execOp a.eval o).run P w = .ok (.value (.bool false)) w := by
  rw [run_eql_dig h d d' hd hd' w x y ty a o ho hx hy, decide_eq_false he]
theorem run_eql_yes {T e : TypeId} (h : DigT P T e) (d d' : List UInt8) (hd : d.length = 32) (hd' : d'.length = 32) (he : d = d') (w : World) (x y : Operand) (ty : TypeId) {a : Act} {o : Oper} (ho : o.op = .binOp .eql T x y ty)
    (hx : a.eval x = .agg (b8s d).toArray) (hy : a.eval y = .agg (b8s d').toArray) : (execOp a.eval o).run P w = .ok (.value (.bool true)) w := by
  rw [run_eql_dig h d d' hd hd' w x y ty a o ho hx hy, decide_eq_true he]
end
end Mur
namespace Go.Proofs.YtfhneademopciaaDoor
open Go.RowKit
def n64s (l : List Nat) : Array Value := (l.map fun x : Nat => Value.int .u64 (x : Int)).toArray
theorem set_n64s {w : World} {g t i : Nat} {l : List Nat} (h : w.heap[g]? = some (.cells (n64s l) t (0, 0))) (x : Nat) : (w.setCell ⟨g, i, none⟩ (.int .u64 (x : Int))).heap[g]? = some (.cells (n64s (l.set i x)) t (0, 0)) := by
  rw [heap_setCell_same w g i _ t _ h]
  simp [n64s, List.map_set]
set_option maxRecDepth 100000
/-- digits: of a number below 2^48. -/
def L3 (w : World) (d e : List Nat) (wr : World) : Prop :=
  Below w.heap.size w wr ∧ wr.heap.size = w.heap.size + 2 ∧ wr.heap[w.heap.size]? = some (.cells (n64s d) 132 (0, 0)) ∧ wr.heap[w.heap.size + 1]? = some (.cells (n64s e) 132 (0, 0))
theorem L3.set {w wr : World} {d e : List Nat} (h : L3 w d e wr) (k x : Nat) : L3 w d (e.set k x) (wr.setCell ⟨w.heap.size + 1, k, none⟩ (.int .u64 (x : Int))) :=
  ⟨h.1.setCell (by simp) _, by simpa using h.2.1, Mur.hp_set_ne h.2.2.1 _ _ _ (by omega), set_n64s h.2.2.2 x⟩
end Go.Proofs.YtfhneademopciaaDoor
namespace Go.Proofs.YtfhneademopciaaDoor
open Go.RowKit
def L5 (w : World) (a b : List Nat) (wr : World) : Prop :=
  Below w.heap.size w wr ∧ w.heap.size + 2 ≤ wr.heap.size ∧ wr.heap[w.heap.size]? = some (.cells (n64s a) 132 (0, 0)) ∧ wr.heap[w.heap.size + 1]? = some (.cells (n64s b) 132 (0, 0))
theorem L5.drewN {w wr : World} {a b : List Nat} (h : L5 w a b wr) (n : Nat) : L5 w a b (wr.drewN n) := ⟨Mur.below_drewN h.1 n, h.2.1, h.2.2.1, h.2.2.2⟩
set_option maxRecDepth 100000
/-! times -/
def Dig (l : List Nat) : Prop := l.length = 10 ∧ ∀ x ∈ l, x < 65536
theorem Dig.set {l : List Nat} (h : Dig l) (k x : Nat) (hx : x < 65536) : Dig (l.set k x) :=
  ⟨by rw [List.length_set]; exact h.1, fun y hy => by
    rcases List.mem_or_eq_of_mem_set hy with h1 | h1
    · exact h.2 y h1
    · rw [h1]; exact hx⟩
def L6 (w : World) (a b o : List Nat) (wr : World) : Prop :=
  Below w.heap.size w wr ∧ w.heap.size + 4 ≤ wr.heap.size ∧ wr.heap[w.heap.size]? = some (.cells (n64s a) 132 (0, 0)) ∧ wr.heap[w.heap.size + 1]? = some (.cells (n64s b) 132 (0, 0)) ∧
  wr.heap[w.heap.size + 1 + 1]? = some (.cells (n64s (List.replicate 10 0)) 132 (0, 0)) ∧ wr.heap[w.heap.size + 1 + 1 + 1]? = some (.cells (n64s o) 132 (0, 0))
theorem L6.drewN {w wr : World} {a b o : List Nat} (h : L6 w a b o wr) (n : Nat) : L6 w a b o (wr.drewN n) := ⟨Mur.below_drewN h.1 n, h.2.1, h.2.2.1, h.2.2.2.1, h.2.2.2.2.1, h.2.2.2.2.2⟩
theorem L6.set {w wr : World} {a b o : List Nat} (h : L6 w a b o wr) (k x : Nat) : L6 w a b (o.set k x) (wr.setCell ⟨w.heap.size + 1 + 1 + 1, k, none⟩ (.int .u64 (x : Int))) :=
  ⟨h.1.setCell (by simp; omega) _, by simpa using h.2.1, Mur.hp_set_ne h.2.2.1 _ _ _ (by omega), Mur.hp_set_ne h.2.2.2.1 _ _ _ (by omega), Mur.hp_set_ne h.2.2.2.2.1 _ _ _ (by omega), set_n64s h.2.2.2.2.2 x⟩
set_option maxHeartbeats 1000000
end Go.Proofs.YtfhneademopciaaDoor
namespace Go.Proofs.YtfhneademopciaaDoor
open Go.RowKit
set_option maxRecDepth 100000
set_option maxHeartbeats 1000000
end Go.Proofs.YtfhneademopciaaDoor
namespace Go.Proofs.YtfhneademopciaaDoor
open Go.RowKit
open Mur (w32 u32s)
set_option maxRecDepth 100000
def L8 (w : World) (g : Nat) (hl kl : List UInt32) (wr : World) : Prop :=
  Below w.heap.size w wr ∧ w.heap.size + 4 ≤ wr.heap.size ∧ wr.heap[w.heap.size]? = some (.cells (u32s (List.replicate 8 0)) 92 (0, 0)) ∧ wr.heap[w.heap.size + 1]? = some (.cells (u32s (List.replicate 64 0)) 93 (0, 0)) ∧
  wr.heap[w.heap.size + 1 + 1]? = some (.cells (u32s hl) 92 (0, 0)) ∧ wr.heap[w.heap.size + 1 + 1 + 1]? = some (.cells (u32s kl) 93 (0, 0)) ∧
  (∀ j, j < 64 → wr.cell? ⟨g, j, none⟩ = some (.int .i64 (((Mur.primesTo 312).getD j 0 : Nat) : Int)))
theorem L8.below {w wr w1 : World} {g : Nat} {hl kl : List UInt32} (h : L8 w g hl kl wr) (hb : Below wr.heap.size wr w1) : L8 w g hl kl w1 := by
  obtain ⟨h0, h1, h2, h3, h4, h5, h6⟩ := h
  exact ⟨h0.trans (hb.mono (by omega)), Nat.le_trans h1 hb.size, Mur.hp_below hb h2, Mur.hp_below hb h3, Mur.hp_below hb h4, Mur.hp_below hb h5, fun j hj => Mur.cell_below hb (h6 j hj)⟩
theorem L8.drewN {w wr : World} {g : Nat} {hl kl : List UInt32} (h : L8 w g hl kl wr) (n : Nat) : L8 w g hl kl (wr.drewN n) := ⟨Mur.below_drewN h.1 n, h.2.1, h.2.2.1, h.2.2.2.1, h.2.2.2.2.1, h.2.2.2.2.2.1, h.2.2.2.2.2.2⟩
set_option maxHeartbeats 1000000
end Go.Proofs.YtfhneademopciaaDoor
namespace Go.Proofs.YtfhneademopciaaDoor
open Go.RowKit
open Mur (St w32 u32s cell_u32s free_row set_u32s)
def L9 (w : World) (h : St) (ws : List UInt32) (wr : World) : Prop :=
  Below w.heap.size w wr ∧ wr.heap.size = w.heap.size + 4 ∧ wr.heap[w.heap.size]? = some (.cells (stCells h) 92 (0, 0)) ∧ wr.heap[w.heap.size + 1]? = some (.cells (u32s Mur.K) 93 (0, 0)) ∧
  wr.heap[w.heap.size + 1 + 1]? = some (.cells (u32s (List.replicate 8 0)) 92 (0, 0)) ∧ wr.heap[w.heap.size + 1 + 1 + 1]? = some (.cells (u32s ws) 93 (0, 0))
theorem L9.set {w wr : World} {h : St} {ws : List UInt32} (H : L9 w h ws wr) (n k : Nat) (x : UInt32) : L9 w h (ws.set k x) ((wr.drewN n).setCell ⟨w.heap.size + 1 + 1 + 1, k, none⟩ (.int .u32 (w32 x))) := by
  obtain ⟨h0, h1, h2, h3, h4, h5⟩ := H
  exact ⟨(Mur.below_drewN h0 n).setCell (by simp; omega) _, by simpa using h1, Mur.hp_set_ne (Mur.hp_drewN h2 n) _ _ _ (by omega), Mur.hp_set_ne (Mur.hp_drewN h3 n) _ _ _ (by omega), Mur.hp_set_ne (Mur.hp_drewN h4 n) _ _ _ (by omega), set_u32s (Mur.hp_drewN h5 n) x⟩
theorem wrap_mul256 (a : UInt32) : IntKind.u32.wrap (w32 a * (256 : Int)) = w32 (a * 256) := by
  rw [IntKind.wrap_u32, w32, w32, UInt32.toNat_mul]
  have t : (256 : UInt32).toNat = 256 := rfl
  rw [t]
  omega
theorem bits_not_u32' (a : UInt32) : bits .xor .u32 4294967295 (w32 a) = w32 (~~~a) := Mur.bits_not_u32 a
attribute [local go_sem] Mur.wrap_u32_u8 wrap_mul256 Mur.shr3 Mur.shr10 Mur.bits_or_u32 Mur.bits_and_u32 Mur.bits_xor_u32 Mur.bits_not_u32 bits_not_u32' Mur.wrap_add_u32 Mur.wrap_not_u32
def L10 (w : World) (h : St) (ws : List UInt32) (s : St) (wr : World) : Prop :=
  Below w.heap.size w wr ∧ wr.heap[w.heap.size]? = some (.cells (stCells h) 92 (0, 0)) ∧ wr.heap[w.heap.size + 1]? = some (.cells (u32s Mur.K) 93 (0, 0)) ∧
  wr.heap[w.heap.size + 1 + 1]? = some (.cells (u32s (List.replicate 8 0)) 92 (0, 0)) ∧ wr.heap[w.heap.size + 1 + 1 + 1]? = some (.cells (u32s ws) 93 (0, 0)) ∧
  wr.heap[w.heap.size + 1 + 1 + 1 + 1]? = some (.cells (stCells s) 92 (0, 0))
theorem L10.drewN {w wr : World} {h s : St} {ws : List UInt32} (H : L10 w h ws s wr) (n : Nat) : L10 w h ws s (wr.drewN n) := ⟨Mur.below_drewN H.1 n, H.2.1, H.2.2.1, H.2.2.2.1, H.2.2.2.2.1, H.2.2.2.2.2⟩
def L11 (w : World) (h : St) (s : List UInt32) (wr : World) : Prop :=
  wr.heap[w.heap.size]? = some (.cells (stCells h) 92 (0, 0)) ∧ Below w.heap.size w wr ∧
  wr.heap[w.heap.size + 1 + 1]? = some (.cells (u32s (List.replicate 8 0)) 92 (0, 0)) ∧ wr.heap[w.heap.size + 1 + 1 + 1 + 1]? = some (.cells (u32s s) 92 (0, 0))
theorem L11.put {w wr : World} {h : St} {s : List UInt32} (H : L11 w h s wr) (n k : Nat) (x : UInt32) : L11 w h (s.set k x) ((wr.drewN n).setCell ⟨w.heap.size + 1 + 1 + 1 + 1, k, none⟩ (.int .u32 (w32 x))) := by
  obtain ⟨h0, h1, h2, h3⟩ := H
  exact ⟨Mur.hp_set_ne (Mur.hp_drewN h0 n) _ _ _ (by omega), (Mur.below_drewN h1 n).setCell (by simp; omega) _, Mur.hp_set_ne (Mur.hp_drewN h2 n) _ _ _ (by omega), set_u32s (Mur.hp_drewN h3 n) x⟩
set_option maxRecDepth 100000
set_option maxHeartbeats 4000000
end Go.Proofs.YtfhneademopciaaDoor
namespace Go.Proofs.YtfhneademopciaaDoor
open Go.RowKit
open Mur (St w32 u32s cell_u32s free_row set_u32s b8s dgV Byt cutA)
theorem padded_eq (b : List UInt8) : Mur.padded b = b ++ [128] ++ List.replicate (Mur.padZeros b.length) 0 ++ lenBytes b.length := rfl
set_option maxRecDepth 100000
set_option maxHeartbeats 4000000
end Go.Proofs.YtfhneademopciaaDoor
namespace Mur
open Go Go.RowKit
section
variable {P : Program} {ops : Array Oper} {rest : List Oper} {o : Oper} {a : Act} {C : World → Prop} {Q : Act → Prop}
end
end Mur
namespace Go.Proofs.YtfhneademopciaaDoor
open Go.RowKit
open Mur (St w32 u32s cell_u32s free_row set_u32s b8s dgV Byt cutA)
def L13 (w : World) (s : St) (D : Nat) (d : List UInt8) (wr : World) : Prop :=
  Below w.heap.size w wr ∧ wr.heap[w.heap.size]? = some (.cells (stCells s) 92 (0, 0)) ∧ wr.heap[w.heap.size + 1 + 1]? = some (.cells (b8s (List.replicate 32 0)).toArray 30 (0, 0)) ∧
  wr.heap[D]? = some (.cells (b8s d).toArray 30 (0, 0))
theorem L13.setD {w wr : World} {s : St} {D : Nat} {d : List UInt8} (h : L13 w s D d wr) (hD : w.heap.size + 3 ≤ D) (k : Nat) (x : UInt8) : L13 w s D (d.set k x) (wr.setCell ⟨D, k, none⟩ (.int .u8 (x.toNat : Int))) :=
  ⟨h.1.setCell (by simp; omega) _, Mur.hp_set_ne h.2.1 _ _ _ (by omega), Mur.hp_set_ne h.2.2.1 _ _ _ (by omega), Mur.set_b8s h.2.2.2 x⟩
set_option maxRecDepth 100000
set_option maxHeartbeats 4000000
end Go.Proofs.YtfhneademopciaaDoor
namespace Mur
open Go Go.RowKit Wk
section
variable {P : Program} {w : World} {a : Act} {o : Oper}
theorem storeArr (ty : TypeId) (x y : Operand) (ho : o.op = .store ty x y) (g : Nat) (hx : a.eval x = .pointer (some ⟨g, 0, none⟩)) (vs : Array Value) (n : Nat) (hv : vs.size = n) (h1 : vs.all (·.oneCell') = true) (hy : a.eval y = .agg vs) (hi : (P.info? ty).map (·.size) = some n)
    (t : TypeId) (cs : Array Value) (hg : w.heap[g]? = some (.cells cs t (0, 0))) (hn : cs.size = n) :
    ∃ w', (execOp a.eval o).run P w = .ok .skip w' ∧ w'.heap[g]? = some (.cells vs t (0, 0)) ∧ Chg [g] w w' := by
  obtain ⟨vl⟩ := vs
  have hvl : vl.length = n := hv
  have h1' : ∀ v ∈ vl, v.oneCell' = true := fun v hm => Array.all_eq_true_iff_forall_mem.1 h1 v (by simpa using hm)
  obtain ⟨w', q1, q2, q3⟩ := storeR (P := P) ty x y ho g 0 hx vl hy (by rw [hi, hvl]) h1' t cs.toList (by simpa using hg) (by rw [hvl, Array.length_toList, hn]; omega)
  refine ⟨w', q1, ?_, q3⟩
  rw [q2]
  congr 2
  have hdrop : cs.toList.drop (0 + vl.length) = [] := List.drop_of_length_le (by rw [hvl, Array.length_toList, hn]; omega)
  unfold splice
  rw [hdrop]
  simp
theorem loadArr (ty : TypeId) (x : Operand) (ho : o.op = .load ty x) (d : TypeDesc) (hu : P.underlying ty = some d) (hd : d.isRow = true) (g : Nat) (hx : a.eval x = .pointer (some ⟨g, 0, none⟩)) (cs : Array Value) (n : Nat) (hn : cs.size = n)
    (hi : (P.info? ty).map (·.size) = some n) (t : TypeId) (fr : Nat × Nat) (hg : w.heap[g]? = some (.cells cs t fr)) : (execOp a.eval o).run P w = .ok (.value (.agg cs)) w := by
  obtain ⟨l⟩ := cs
  exact loadR ty x ho d hu hd g 0 hx l (by rw [hi]; exact congrArg some hn.symm) (range_row hg)
end
theorem Own8.some {w : World} {base e n c : Nat} {A : Option Addr} {l : List UInt8} (h : Own8 w base e A n c l) (hn : 0 < n) : ∃ g, A = some ⟨g, 0, none⟩ ∧ base ≤ g ∧ g < w.heap.size := by
  obtain ⟨g, rfl, _⟩ := own_some h.own hn
  exact ⟨g, rfl, h.at_ g 0 rfl⟩
end Mur
namespace Go.Proofs.YtfhneademopciaaDoor
open Go.RowKit
open Mur (St w32 u32s cell_u32s free_row set_u32s b8s dgV Byt cutA)
end Go.Proofs.YtfhneademopciaaDoor
namespace Mur
open Go Go.RowKit Wk
/-- An attest's cells. -/
def attC (k r : List UInt8) (n : Int) (t : List UInt8) : List Value := b8s k ++ (b8s r ++ (.int .i64 n :: b8s t))
theorem own8_someq {w : World} {base e n c : Nat} {A : Option Addr} {l : List UInt8} (h : Own8 w base e A n c l) (hn : 0 < n) : ∃ g, A = some ⟨g, 0, none⟩ ∧ base ≤ g ∧ g < w.heap.size := by
  obtain ⟨g, rfl, _⟩ := own_some h.own hn
  exact ⟨g, rfl, h.at_ g 0 rfl⟩
def z32 : List UInt8 := List.replicate 32 0
section
variable {k r t : List UInt8} {n : Int}
theorem attC_length (hk : k.length = 32) (hr : r.length = 32) (ht : t.length = 32) : (attC k r n t).length = 97 := by simp [attC, b8s_length, hk, hr, ht]
theorem attC_size (hk : k.length = 32) (hr : r.length = 32) (ht : t.length = 32) : (attC k r n t).toArray.size = 97 := attC_length hk hr ht
theorem attC_one : ∀ v ∈ attC k r n t, v.oneCell' = true := by
  intro v hv
  simp only [attC, List.mem_append, List.mem_cons] at hv
  rcases hv with h | h | h | h
  · exact b8s_one k v h
  · exact b8s_one r v h
  · subst h; rfl
  · exact b8s_one t v h
theorem attC_all : (attC k r n t).toArray.all (·.oneCell') = true := Array.all_eq_true_iff_forall_mem.2 fun v hv => attC_one v (by simpa using hv)
theorem attC_zero : (attC z32 z32 0 z32).toArray = #[.int .u8 0, .int .u8 0, .int .u8 0, .int .u8 0, .int .u8 0, .int .u8 0, .int .u8 0, .int .u8 0, .int .u8 0, .int .u8 0, .int .u8 0, .int .u8 0, .int .u8 0, .int .u8 0, .int .u8 0, .int .u8 0,
  .int .u8 0, .int .u8 0, .int .u8 0, .int .u8 0, .int .u8 0, .int .u8 0, .int .u8 0, .int .u8 0, .int .u8 0, .int .u8 0, .int .u8 0, .int .u8 0, .int .u8 0, .int .u8 0, .int .u8 0, .int .u8 0,
  .int .u8 0, .int .u8 0, .int .u8 0, .int .u8 0, .int .u8 0, .int .u8 0, .int .u8 0, .int .u8 0, .int .u8 0, .int .u8 0, .int .u8 0, .int .u8 0, .int .u8 0, .int .u8 0, .int .u8 0, .int .u8 0,
  .int .u8 0, .int .u8 0, .int .u8 0, .int .u8 0, .int .u8 0, .int .u8 0, .int .u8 0, .int .u8 0, .int .u8 0, .int .u8 0, .int .u8 0, .int .u8 0, .int .u8 0, .int .u8 0, .int .u8 0, .int .u8 0, .int .i64 0,
  .int .u8 0, .int .u8 0, .int .u8 0, .int .u8 0, .int .u8 0, .int .u8 0, .int .u8 0, .int .u8 0, .int .u8 0, .int .u8 0, .int .u8 0, .int .u8 0, .int .u8 0, .int .u8 0, .int .u8 0, .int .u8 0,
  .int .u8 0, .int .u8 0, .int .u8 0, .int .u8 0, .int .u8 0, .int .u8 0, .int .u8 0, .int .u8 0, .int .u8 0, .int .u8 0, .int .u8 0, .int .u8 0, .int .u8 0, .int .u8 0, .int .u8 0, .int .u8 0] := rfl
variable {w : World} {g : Nat} {T : TypeId} {fr : Nat × Nat}
theorem att_key (h : w.heap[g]? = some (.cells (attC k r n t).toArray T fr)) : w.rangeAt g 0 (b8s k) := range_sub 0 (b8s k) h (by simp [attC])
theorem att_root (hk : k.length = 32) (h : w.heap[g]? = some (.cells (attC k r n t).toArray T fr)) : w.rangeAt g 32 (b8s r) := range_sub 32 (b8s r) h (by
  show ((b8s k ++ _).drop 32).take _ = _
  rw [List.drop_left' (by rw [b8s_length, hk])]
  simp)
theorem drop64 (hk : k.length = 32) (hr : r.length = 32) : (attC k r n t).drop 64 = .int .i64 n :: b8s t := by
  unfold attC
  rw [← List.append_assoc, List.drop_left' (by rw [List.length_append, b8s_length, b8s_length, hk, hr])]
theorem att_tag (hk : k.length = 32) (hr : r.length = 32) (h : w.heap[g]? = some (.cells (attC k r n t).toArray T fr)) : w.rangeAt g 65 (b8s t) := range_sub 65 (b8s t) h (by
  show ((attC k r n t).drop (64 + 1)).take _ = _
  rw [← List.drop_drop, drop64 hk hr]
  simp)
theorem att_len (hk : k.length = 32) (hr : r.length = 32) (h : w.heap[g]? = some (.cells (attC k r n t).toArray T fr)) : w.cell? ⟨g, 64, none⟩ = some (.int .i64 n) := by
  rw [cell_of_row _ _ _ _ _ _ h, List.getElem?_toArray]
  have := congrArg (fun l => l[0]?) (drop64 (n := n) (t := t) hk hr)
  simpa [List.getElem?_drop] using this
theorem byt_rng {off m : Nat} {l : List UInt8} (h : w.rangeAt g off (b8s l)) (hl : l.length = m) : Byt w (some ⟨g, off, none⟩) m l := ⟨hl, fun _ => ⟨g, off, rfl, fun j hj => h j _ (b8s_get l j (by omega))⟩⟩
end
theorem splice_mid {α : Type} {A B C vs : List α} {off : Nat} (hA : A.length = off) (hB : B.length = vs.length) : splice (A ++ (B ++ C)) off vs = A ++ (vs ++ C) := by
  unfold splice
  rw [List.take_left' hA, ← List.append_assoc A B C, List.drop_left' (by rw [List.length_append]; omega)]
theorem fold_splice : ∀ (vs L : List Value) (off s : Nat), off + s + vs.length ≤ L.length → (vs.zipIdx s).foldl (fun cs (c : Value × Nat) => cs.setIfInBounds (off + c.2) c.1) L.toArray = (splice L (off + s) vs).toArray
  | [], L, off, s, _ => by simp [splice]
  | v :: vs, L, off, s, h => by
    simp only [List.length_cons] at h
    rw [List.zipIdx_cons, List.foldl_cons, List.setIfInBounds_toArray, fold_splice vs (L.set (off + s) v) off (s + 1) (by simp; omega)]
    rw [← Nat.add_assoc, splice_set L (off + s) v vs (by omega)]
section
variable {P : Program} {w : World} {a : Act} {o : Oper}
theorem fill_part {place : Nat → Option (Nat × Nat)} {L vs : List Value} {v : Value} {i off size : Nat} {rest : List (Nat × Value)} {R : Option (Array Value)} (hp : place i = some (off, size)) (hv : v.cells = vs.toArray) (hs : vs.length = size) (hf : off + size ≤ L.length)
    (h : Instr.fill place (splice L off vs).toArray rest = R) : Instr.fill place L.toArray ((i, v) :: rest) = R := by
  subst hs
  unfold Instr.fill
  rw [hp]
  simp only [hv, List.size_toArray, ne_eq, not_true_eq_false, decide_false, Bool.false_or]
  rw [if_neg (by simpa using hf)]
  have := fold_splice vs L off 0 (by omega)
  rw [Nat.add_zero] at this
  rw [← h, ← this]
  congr 1
  rw [← Array.foldl_toList, Array.toList_zipIdx]
theorem run_built (t : TypeId) (parts : Array (Nat × Operand)) (ho : o.op = .build t parts) (vals : List (Nat × Value)) (hv : (parts.map fun p => (p.1, a.eval p.2)) = vals.toArray) (cells : Array Value) (hb : P.built t vals = some cells) : (execOp a.eval o).run P w = .ok (.value (.agg cells)) w := by
  have := run_build (P := P) w t vals.toArray cells (by simpa using hb)
  unfold execOp
  simp only [ho, hv, Sem.run_bind, this, Result.andThen_ok, Sem.run_pure]
/-- An array in the midst of a block, as a slice. -/
theorem arr_slice_at (t e : TypeId) (x : Operand) (n : Nat) (ho : o.op = .slice t x none none none) (ht : P.underlying t = some (.array n e)) (hsz : (P.info? e).map (·.size) = some 1) (g off : Nat) (hx : a.eval x = .pointer (some ⟨g, off, none⟩)) :
    (execOp a.eval o).run P w = .ok (.value (.slice (some ⟨g, off, none⟩) n n)) w := by
  obtain ⟨i, hi, hs⟩ := Option.map_eq_some_iff.1 hsz
  have e0 : (⟨g, off, none⟩ : Addr).add 0 = ⟨g, off, none⟩ := by rw [Addr.add_mid]; rfl
  unfold execOp
  simp only [ho, hx, Option.map_none]
  simp [Instr.sliceAt, Instr.slice, Instr.sureAddr, run_underlying ht, Instr.sliceBounds, Go.sizeOf, typeInfo, hi, e0]
/-- A shift right of an unsigned number. -/
theorem shr64 (t ty : TypeId) (x y : Operand) (ho : o.op = .binOp .shr t x y ty) (u k : Nat) (yk : IntKind) (hx : a.eval x = .int .u64 ((u : Nat) : Int)) (hy : a.eval y = .int yk ((k : Nat) : Int)) (hk : k ≤ 64) (p : Nat) (hp : 2 ^ k = p) : (execOp a.eval o).run P w = .ok (.value (.int .u64 (((u / p : Nat)) : Int))) w := by
  subst hp
  have hb : IntKind.u64.bits = 64 := rfl
  have key : (Op.shift .shr .u64 ((u : Nat) : Int) yk ((k : Nat) : Int)).run P w = .ok (.int .u64 ((u / 2 ^ k : Nat) : Int)) w := by
    unfold Op.shift
    rw [if_neg (by omega)]
    have h1 : min ((k : Nat) : Int).toNat IntKind.u64.bits = k := by rw [hb]; simp; omega
    have h2 : Int.fdiv ((u : Nat) : Int) (2 ^ k) = ((u / 2 ^ k : Nat) : Int) := by
      rw [Int.fdiv_eq_ediv_of_nonneg _ (by exact_mod_cast Nat.zero_le _)]
      exact_mod_cast rfl
    simp only [h1, h2, Sem.run_pure]
  have hg : (eqGuard .shr t x y (.int .u64 ((u : Nat) : Int)) (.int yk ((k : Nat) : Int))).run P w = .ok () w := rfl
  have key2 : (binOp .shr t (.int .u64 ((u : Nat) : Int)) (.int yk ((k : Nat) : Int))).run P w = .ok (.int .u64 ((u / 2 ^ k : Nat) : Int)) w := key
  unfold execOp
  simp only [ho, hx, hy]
  simp only [Sem.run_bind, Sem.run_pure, hg, Result.andThen_ok, key2]
end
theorem u8_mod (u : Nat) : IntKind.u8.wrap ((u : Nat) : Int) = ((u % 256 : Nat) : Int) := by
  show ((u : Nat) : Int) % 256 = _
  omega
def u64n (n : Int) : Nat := (IntKind.u64.wrap n).toNat
/-- A number's eight bytes, the highest first. -/
def e8 (u : Nat) : List UInt8 := [UInt8.ofNat (u / 72057594037927936), UInt8.ofNat (u / 281474976710656), UInt8.ofNat (u / 1099511627776), UInt8.ofNat (u / 4294967296), UInt8.ofNat (u / 16777216), UInt8.ofNat (u / 65536), UInt8.ofNat (u / 256), UInt8.ofNat (u / 1)]
theorem e8_cells (u : Nat) : (b8s (e8 u)).toArray = #[.int .u8 ((u / 72057594037927936 % 256 : Nat) : Int), .int .u8 ((u / 281474976710656 % 256 : Nat) : Int), .int .u8 ((u / 1099511627776 % 256 : Nat) : Int), .int .u8 ((u / 4294967296 % 256 : Nat) : Int),
    .int .u8 ((u / 16777216 % 256 : Nat) : Int), .int .u8 ((u / 65536 % 256 : Nat) : Int), .int .u8 ((u / 256 % 256 : Nat) : Int), .int .u8 ((u / 1 % 256 : Nat) : Int)] := by
  have h : ∀ x : Nat, (UInt8.ofNat x).toNat = x % 256 := fun x => by simp
  simp only [e8, b8s, List.map_cons, List.map_nil, h]
theorem e8_length (u : Nat) : (e8 u).length = 8 := rfl
/-- What a result's tag is of. -/
def body (k r : List UInt8) (n : Int) : List UInt8 := [17] ++ (k ++ (r ++ e8 (u64n n)))
def may (n : Int) : Prop := 1 ≤ n ∧ n ≤ 5000
instance (n : Int) : Decidable (may n) := by unfold may; infer_instance
end Mur
namespace Mur
open Go Go.RowKit Wk
section
variable {P : Program} {w : World} {a : Act} {o : Oper}
theorem conv_u64n (s t : TypeId) (x : Operand) (ho : o.op = .convert s t x) (hs : (P.underlying s).isSome = true) (ht : P.underlying t = some (.int .u64)) (k : IntKind) (z : Int) (hx : a.eval x = .int k z) : (execOp a.eval o).run P w = .ok (.value (.int .u64 ((u64n z : Nat) : Int))) w := by
  obtain ⟨v, w1, h, u, rfl, rfl, hu⟩ := to_u64 (P := P) (w := w) s t x ho hs ht k z hx
  rw [h]
  have : u = u64n z := by unfold u64n; omega
  rw [this]
theorem conv_u8 (s t : TypeId) (x : Operand) (ho : o.op = .convert s t x) (hs : (P.underlying s).isSome = true) (ht : P.underlying t = some (.int .u8)) (k : IntKind) (u : Nat) (hx : a.eval x = .int k ((u : Nat) : Int)) : (execOp a.eval o).run P w = .ok (.value (.int .u8 ((u % 256 : Nat) : Int))) w := by
  have hk : P.intKind t = .u8 := by simp [Program.intKind, ht]
  have key : (convert s t (.int k ((u : Nat) : Int))).run P w = .ok (.int .u8 ((u % 256 : Nat) : Int)) w := by
    have := run_convert_int (P := P) (w := w) s t k ((u : Nat) : Int) hs (by rw [ht, hk])
    rw [this, hk, u8_mod]
  unfold execOp
  simp only [ho, hx, Sem.run_bind, key, Result.andThen_ok, Sem.run_pure]
theorem quo_u64 (t ty : TypeId) (x y : Operand) (ho : o.op = .binOp .quo t x y ty) (i n : Nat) (hx : a.eval x = .int .u64 ((i : Nat) : Int)) (hy : a.eval y = .int .u64 ((n : Nat) : Int)) (hn : 0 < n) (hi : i < 18446744073709551616) :
    (execOp a.eval o).run P w = .ok (.value (.int .u64 ((i / n : Nat) : Int))) w := by
  have hne : ¬ n = 0 := by omega
  have h1 : Int.tdiv (i : Int) (n : Int) = ((i / n : Nat) : Int) := by
    rw [Int.tdiv_eq_ediv_of_nonneg (by omega)]
    exact_mod_cast rfl
  have hlt : i / n ≤ i := Nat.div_le_self i n
  have h2 : IntKind.u64.wrap ((i / n : Nat) : Int) = ((i / n : Nat) : Int) := u64_nat (by omega)
  unfold execOp
  simp only [ho, hx, hy]
  simp only [eqGuard, binOp]
  simp [Op.intDiv, hne, h1]
  first | done | exact_mod_cast h2
end
theorem u64n_lt (n : Int) : u64n n < 18446744073709551616 := by
  have h1 : IntKind.u64.wrap n = n % 18446744073709551616 := rfl
  unfold u64n
  rw [h1]
  omega
/-- A literal's bytes, as one's own. -/
theorem own8_lit {w : World} {base e g n : Nat} {l : List UInt8} (h : w.heap[g]? = some (.cells (b8s l).toArray e (0, 0))) (hb : base ≤ g) (hn : l.length = n) (hm : n ≤ 1000) : Own8 w base e (some ⟨g, 0, none⟩) n n l :=
  own8 ⟨by rw [b8s_length, hn, Nat.mul_one], .inr ⟨g, n, _, rfl, hb, h, Nat.le_refl _, by unfold maxLen; omega, by simp [b8s_length, hn], by
    show (b8s l).take (n * 1) = _
    rw [List.take_of_length_le (by rw [b8s_length, hn]; omega)]⟩⟩
theorem e8_quo (u : Nat) : #[Value.int .u8 ((u / 256 / 256 / 256 / 256 / 256 / 256 / 256 % 256 : Nat) : Int), .int .u8 ((u / 256 / 256 / 256 / 256 / 256 / 256 % 256 : Nat) : Int), .int .u8 ((u / 256 / 256 / 256 / 256 / 256 % 256 : Nat) : Int), .int .u8 ((u / 256 / 256 / 256 / 256 % 256 : Nat) : Int),
    .int .u8 ((u / 256 / 256 / 256 % 256 : Nat) : Int), .int .u8 ((u / 256 / 256 % 256 : Nat) : Int), .int .u8 ((u / 256 % 256 : Nat) : Int), .int .u8 ((u % 256 : Nat) : Int)] = (b8s (e8 u)).toArray := by
  rw [e8_cells]
  simp only [Nat.div_div_eq_div_mul, Nat.div_one, Nat.reduceMul]
end Mur
namespace Go.Proofs.YtfhneademopciaaDoor
open Mur (b8s)
theorem digT : Mur.DigT Tryd.prog 30 5 := ⟨Tryd.underlying30, Tryd.underlying5, by kernel_rfl, by kernel_rfl, by kernel_rfl, by kernel_rfl⟩
end Go.Proofs.YtfhneademopciaaDoor
namespace Go.Proofs.YtfhneademopciaaDoor
open Go.RowKit Wk
open Mur (b8s attC z32 DigT litOf)
set_option maxRecDepth 100000
def litsD (d : List UInt8) : List Lit := ((List.range 32).map (litOf d)).flatten
theorem litsD_length (d : List UInt8) : (litsD d).length = 32 := by
  have h : ∀ l : List Nat, ((l.map (litOf d)).flatten).length = l.length := by
    intro l
    induction l with
    | nil => rfl
    | cons x l ih => simp [litOf, ih]
  rw [litsD, h, List.length_range]
theorem keyLits_att {k r t : List UInt8} {n : Int} (hk : k.length = 32) (hr : r.length = 32) (ht : t.length = 32) (hn : (Lit.int .i64 n).wf = true) : Tryd.prog.keyLits 3 32 (attC k r n t) = some (litsD k ++ (litsD r ++ (Lit.int .i64 n :: litsD t))) := by
  have hc : Tryd.prog.cellsOf 32 = 97 := by kernel_rfl
  have c1 : Tryd.prog.cellsOf 30 = 32 := by kernel_rfl
  have c2 : Tryd.prog.cellsOf 3 = 1 := by kernel_rfl
  have e1 : ((attC k r n t).drop 0).take 32 = b8s k := by
    show (b8s k ++ _).take 32 = _
    rw [List.take_left' (by rw [Mur.b8s_length, hk])]
  have e2 : ((attC k r n t).drop 32).take 32 = b8s r := by
    show ((b8s k ++ _).drop 32).take 32 = _
    rw [List.drop_left' (by rw [Mur.b8s_length, hk]), List.take_left' (by rw [Mur.b8s_length, hr])]
  have e3 : ((attC k r n t).drop 64).take 1 = [.int .i64 n] := by rw [Mur.drop64 hk hr]; rfl
  have e4 : ((attC k r n t).drop 65).take 32 = b8s t := by
    show ((attC k r n t).drop (64 + 1)).take 32 = _
    rw [← List.drop_drop, Mur.drop64 hk hr]
    show (b8s t).take 32 = _
    rw [List.take_of_length_le (by rw [Mur.b8s_length, ht]; exact Nat.le_refl _)]
  have l1 := fun (d : List UInt8) (hd : d.length = 32) => Mur.keyLits_dig digT d hd
  have l3 : Tryd.prog.keyLits 2 3 [.int .i64 n] = some [.int .i64 n] := by
    unfold Program.keyLits
    simp only [Tryd.underlying3]
    exact if_pos ⟨trivial, hn⟩
  unfold Program.keyLits
  simp only [Tryd.underlying32]
  rw [if_pos ⟨by rw [Mur.attC_length hk hr ht, hc], by decide +kernel⟩]
  simp only [List.mapM_cons, List.mapM_nil, c1, c2, e1, e2, e3, e4, l1 _ hk, l1 _ hr, l1 _ ht, l3]
  simp [litsD]
theorem litsD_inj {d d' : List UInt8} (hd : d.length = 32) (hd' : d'.length = 32) : litsD d = litsD d' ↔ d = d' := Mur.lits_inj hd hd'
theorem att_lits {k r t k' r' t' : List UInt8} {n n' : Int} (hk : k.length = 32) (hr : r.length = 32) (ht : t.length = 32) (hk' : k'.length = 32) (hr' : r'.length = 32) (ht' : t'.length = 32) :
    litsD k ++ (litsD r ++ (Lit.int .i64 n :: litsD t)) = litsD k' ++ (litsD r' ++ (Lit.int .i64 n' :: litsD t')) ↔ k = k' ∧ r = r' ∧ n = n' ∧ t = t' := by
  constructor
  · intro h
    have h1 := List.append_inj h (by rw [litsD_length, litsD_length])
    have h2 := List.append_inj h1.2 (by rw [litsD_length, litsD_length])
    have h3 := List.cons.inj h2.2
    exact ⟨(litsD_inj hk hk').1 h1.1, (litsD_inj hr hr').1 h2.1, by injection h3.1, (litsD_inj ht ht').1 h3.2⟩
  · rintro ⟨rfl, rfl, rfl, rfl⟩
    rfl
theorem eql_att {k r t k' r' t' : List UInt8} {n n' : Int} (hk : k.length = 32) (hr : r.length = 32) (ht : t.length = 32) (hk' : k'.length = 32) (hr' : r'.length = 32) (ht' : t'.length = 32) (hn : (Lit.int .i64 n).wf = true) (hn' : (Lit.int .i64 n').wf = true) (w : World) :
    (Op.equalIn 10000 32 (.agg (attC k r n t).toArray) (.agg (attC k' r' n' t').toArray)).run Tryd.prog w = .ok (decide (k = k' ∧ r = r' ∧ n = n' ∧ t = t')) w := by
  have hf : ∀ {a b c : List UInt8} {m : Int}, a.length = 32 → b.length = 32 → c.length = 32 → (Value.agg (attC a b m c).toArray).formed Tryd.prog 32 = true := by
    intro a b c m h1 h2 h3
    have hc : Tryd.prog.cellsOf 32 = 97 := by kernel_rfl
    simp [Value.formed, Tryd.underlying32, hc, Mur.attC_length h1 h2 h3]
  obtain ⟨b, hb, hiff⟩ := run_equalIn_deep (P := Tryd.prog) 9997 3 32 (by kernel_rfl) w 3 3 (.agg (attC k r n t).toArray) (.agg (attC k' r' n' t').toArray) _ _ (hf hk hr ht) (hf hk' hr' ht') (keyLits_att hk hr ht hn) (keyLits_att hk' hr' ht' hn')
  rw [att_lits hk hr ht hk' hr' ht'] at hiff
  rw [show (10000 : Nat) = 9997 + 3 from rfl, hb]
  congr 1
  by_cases e : k = k' ∧ r = r' ∧ n = n' ∧ t = t'
  · rw [decide_eq_true e]; exact hiff.2 e
  · rw [decide_eq_false e]
    cases b
    · rfl
    · exact absurd (hiff.1 rfl) e
section
variable {w : World} {a : Act} {o : Oper} {k r t k' r' t' : List UInt8} {n n' : Int}
theorem quiet_att : Tryd.prog.eqGuardType Tryd.prog.depth 32 = false := by kernel_rfl
theorem run_eql_att (x y : Operand) (ty : TypeId) (ho : o.op = .binOp .eql 32 x y ty) (hk : k.length = 32) (hr : r.length = 32) (ht : t.length = 32) (hk' : k'.length = 32) (hr' : r'.length = 32) (ht' : t'.length = 32) (hn : (Lit.int .i64 n).wf = true) (hn' : (Lit.int .i64 n').wf = true)
    (hx : a.eval x = .agg (attC k r n t).toArray) (hy : a.eval y = .agg (attC k' r' n' t').toArray) : (execOp a.eval o).run Tryd.prog w = .ok (.value (.bool (decide (k = k' ∧ r = r' ∧ n = n' ∧ t = t')))) w := by
  unfold execOp
  simp only [ho, hx, hy, Sem.run_bind, run_eqGuard_agg w _ _ _ _ _ _ quiet_att, Result.andThen_ok, run_eql_struct, Sem.run_pure, eql_att hk hr ht hk' hr' ht' hn hn']
end
end Go.Proofs.YtfhneademopciaaDoor
namespace Mur
open Go Go.RowKit Go.WideShapes Go.ChangeShapes
theorem all2_split {α β : Type} {R : α → β → Prop} : ∀ {l1 l2 : List α} {cs : List β}, All2 R (l1 ++ l2) cs → ∃ c1 c2, cs = c1 ++ c2 ∧ All2 R l1 c1 ∧ All2 R l2 c2
  | [], _, cs, h => ⟨[], cs, rfl, .nil, h⟩
  | x :: l1, l2, cs, h => by
    rcases h with _ | ⟨h0, h⟩
    obtain ⟨c1, c2, rfl, h1, h2⟩ := all2_split h
    exact ⟨_ :: c1, c2, rfl, .cons h0 h1, h2⟩
section
variable {H : Type} {enc : TypeId × Value → H} {P : Program} {W : World}
end
end Mur
namespace Go.Proofs.YtfhneademopciaaDoor
theorem leafs_a : Mur.leafs Tryd.prog 3 32 = some (List.replicate 32 5 ++ (List.replicate 32 5 ++ ([3] ++ List.replicate 32 5))) := by kernel_rfl
end Go.Proofs.YtfhneademopciaaDoor
namespace Mur
open Go Go.RowKit Wk
section
variable {P : Program} {w : World} {a : Act} {o : Oper}
theorem run_cut3 (t : TypeId) (x : Operand) (ol : Option Operand) (oh om : Operand) (ho : o.op = .slice t x ol (some oh) (some om)) (e : TypeId) (ht : P.underlying t = some (.slice e)) (hsz : (P.info? e).map (·.size) = some 1) (g off n c lo hi mx m : Nat)
    (hx : a.eval x = .slice (some ⟨g, off, none⟩) n c) (hl : ol.map a.eval = some (.int .i64 ((lo : Nat) : Int)) ∨ (ol = none ∧ lo = 0)) (hh : a.eval oh = .int .i64 ((hi : Nat) : Int)) (hm : a.eval om = .int .i64 ((mx : Nat) : Int)) (h1 : lo + m = hi) (h2 : hi = mx) (h3 : mx ≤ c) (h4 : 0 < m) :
    (execOp a.eval o).run P w = .ok (.value (.slice (some ⟨g, off + lo, none⟩) m m)) w := by
  subst h2
  obtain ⟨i, hi', hs⟩ := Option.map_eq_some_iff.1 hsz
  have hne : ¬ hi = lo := by omega
  have e1 : hi - lo = m := by omega
  have e2 : (⟨g, off, none⟩ : Addr).add lo = ⟨g, off + lo, none⟩ := Addr.add_mid g off lo
  unfold execOp
  rcases hl with hl | ⟨rfl, rfl⟩
  · simp only [ho, hx, hl, hh, hm, Option.map_some]
    simp [Instr.sliceAt, Instr.slice, run_underlying ht, Instr.sliceBounds, Go.sizeOf, typeInfo, hi', hs, run_sliceBound w .i64 ((lo : Nat) : Int) hi _ (by omega) (by omega), run_sliceBound w .i64 ((hi : Nat) : Int) hi _ (by omega) (by omega), run_sliceBound w .i64 ((hi : Nat) : Int) c _ (by omega) (by omega), e1, hne, e2]
  · have e3 : hi = m := by omega
    subst e3
    simp only [ho, hx, hh, hm, Option.map_some, Option.map_none]
    simp [Instr.sliceAt, Instr.slice, run_underlying ht, Instr.sliceBounds, Go.sizeOf, typeInfo, hi', run_sliceBound w .i64 ((hi : Nat) : Int) hi _ (by omega) (by omega), run_sliceBound w .i64 ((hi : Nat) : Int) c _ (by omega) (by omega), Addr.add_mid]
theorem cutA_at {g off c l : Nat} (h : l < c) : cutA (some ⟨g, off, none⟩) c l = some ⟨g, off + l, none⟩ := by
  have hne : ¬ c = l := by omega
  have hne2 : ¬ c - l = 0 := by omega
  have e2 : (⟨g, off, none⟩ : Addr).add l = ⟨g, off + l, none⟩ := Addr.add_mid g off l
  unfold cutA
  first | simp [hne, e2] | simp [hne2, e2]
theorem run_from_at (t : TypeId) (x y : Operand) (ho : o.op = .slice t x (some y) none none) (e : TypeId) (ht : P.underlying t = some (.slice e)) (hsz : (P.info? e).map (·.size) = some 1) (g off n c l m : Nat)
    (hx : a.eval x = .slice (some ⟨g, off, none⟩) n c) (hy : a.eval y = .int .i64 (l : Int)) (hl : l < n) (hnc : n ≤ c) (hm : n - l = m) : (execOp a.eval o).run P w = .ok (.value (.slice (some ⟨g, off + l, none⟩) m (c - l))) w := by
  rw [run_op_from t x y ho e ht hsz _ n c l hx hy (by omega) hnc, cutA_at (by omega), hm]
theorem copy_mid (d s : Operand) (dT sT : TypeId) (ho : o.op = .call { callee := .builtin .copy, args := #[d, s], argTypes := #[dT, sT] }) (e : TypeId) (hu : P.underlying dT = some (.slice e)) (hsz : (P.info? e).map (·.size) = some 1)
    (g off D c : Nat) (hd : a.eval d = .slice (some ⟨g, off, none⟩) D c) (A : Option Addr) (n c2 : Nat) (hs : a.eval s = .slice A n c2) (t : TypeId) (L : List Value) (r : List UInt8) (hg : w.heap[g]? = some (.cells L.toArray t (0, 0))) (hb : Byt w A n r) (hn : n ≤ D) (hp : 0 < n) (hf : off + n ≤ L.length)
    (R : List Value) (hR : splice L off (b8s r) = R) :
    ∃ v w', (execOp a.eval o).run P w = .ok (.value v) w' ∧ v = .int .i64 ((n : Nat) : Int) ∧ w'.heap[g]? = some (.cells R.toArray t (0, 0)) ∧ Chg [g] w w' := by
  subst hR
  have hrn := hb.1
  obtain ⟨g', off', rfl, hc⟩ := hb.2 hp
  have hsrc : ∀ j v, (b8s r)[j]? = some v → w.cell? ((⟨g', off', none⟩ : Addr).add j) = some v := by
    intro j v hv
    have hj : j < r.length := by
      have := (List.getElem?_eq_some_iff.1 hv).1
      simpa [b8s_length] using this
    rw [Addr.add_mid]
    rw [b8s_get r j hj] at hv
    injection hv with hv
    subst hv
    exact hc j (by omega)
  have hrun := run_copy_row (P := P) w dT sT o.type e g off D c ⟨g', off', none⟩ n c2 L.toArray t (b8s r) hu hsz hg (by rw [b8s_length, hrn]; exact (Nat.min_eq_left hn).symm) hsrc (by simp [b8s_length]; omega) (b8s_one r)
  refine ⟨.int .i64 ((n : Nat) : Int), w.setRow g (splice L off (b8s r)).toArray, ?_, rfl, setRow_heap w g _ _ t _ hg, ⟨rfl, rfl, rfl, by simp [World.setRow], fun k hk ho => setRow_other _ _ _ _ (fun h => ho.1 h)⟩⟩
  unfold execOp
  simp only [ho, resolve, invoke, builtin, Sem.run_bind, Sem.run_pure, Result.andThen_ok, List.map_toArray, List.map_cons, List.map_nil, hs, hd, hrun, goInt, b8s_length, hrn]
  congr 2
  unfold splice
  simp [b8s_length, hrn]
end
/-- A number out of its eight bytes. -/
def be8 (e : List UInt8) : Nat :=
  (((((((0 * 256 + (e.getD 0 0).toNat) * 256 + (e.getD 1 0).toNat) * 256 + (e.getD 2 0).toNat) * 256 + (e.getD 3 0).toNat) * 256 + (e.getD 4 0).toNat) * 256 + (e.getD 5 0).toNat) * 256 + (e.getD 6 0).toNat) * 256 + (e.getD 7 0).toNat
end Mur
namespace Mur
open Go
end Mur
namespace Mur
open Go Go.RowKit Wk
open Go.Lib (compareBytes)
section
variable {P : Program} {w : World} {a : Act} {o : Oper}
theorem ext_run {w1 : World} (f : FuncId) (xs : List Operand) (ts : Array TypeId) (vals : List Value) (ho : o.op = .call { callee := .value (.func f), args := xs.toArray, argTypes := ts }) (hv : xs.map a.eval = vals) {v : Value} (h : (callFunc f vals.toArray).run P w = .ok (.value v) w1) : (execOp a.eval o).run P w = .ok (.value v) w1 := by
  obtain ⟨dst, op, ty, pos, after, guard⟩ := o
  simp only at ho
  subst ho
  rw [execOp_call_go, List.map_toArray, hv, show #[] ++ vals.toArray ++ #[] = vals.toArray by simp, h]
theorem run_nz {f : FuncId} {fn : Func} (ps : Array TypeId) (t e : TypeId) (hf : P.funcs[f]? = some fn) (hname : (fn.name == "runtime.NumGoroutine") = false) (hb : fn.body.isNone = true) (hn : Extern.findNext fn = none) (he : Extern.find fn = some (Extern.BytealgMakeNoZero.makeNoZero ps #[t]))
    (ht : P.underlying t = some (.slice e)) (x : Operand) (ts : Array TypeId) (ho : o.op = .call { callee := .value (.func f), args := #[x], argTypes := ts }) (n : Nat) (hx : a.eval x = .int .i64 ((n : Nat) : Int)) (hm : n ≤ 1000) :
    ∃ v1 w1, (execOp a.eval o).run P w = .ok (.value v1) w1 ∧ ∃ cs : List Value, v1 = .slice (some ⟨w.heap.size, 0, none⟩) n cs.length ∧ w1.heap[w.heap.size]? = some (.cells cs.toArray e (0, 0)) ∧ n ≤ cs.length ∧ Chg [] w w1 ∧ w.heap.size < w1.heap.size := by
  obtain ⟨cs, h1, h2, _⟩ := Lib.run_makeNoZero (P := P) (w := w) ps t e ht n (by omega)
  refine ⟨_, _, ext_run f [x] ts [.int .i64 ((n : Nat) : Int)] ho (by simp [hx]) (by rw [run_callFunc_extern hf hname hb hn he]; show ((Extern.BytealgMakeNoZero.makeNoZero ps #[t] #[.int .i64 n]).run P w).andThen _ = _; rw [h1]; rfl), cs.toList, by simp, by simpa using heap_alloc_new w.drew.drew _, by simpa using h2, ?_, by simp⟩
  exact ⟨rfl, rfl, rfl, by simp, fun k hk _ => Below.heap_alloc w.drew.drew _ k hk⟩
theorem run_loadBytes {g : Nat} : ∀ (l : List UInt8) (off : Nat) (acc : ByteArray), (∀ j, j < l.length → w.cell? ⟨g, off + j, none⟩ = some (.int .u8 ((l.getD j 0).toNat : Int))) → (Extern.Bytes.loadBytes ⟨g, off, none⟩ l.length acc).run P w = .ok ⟨acc.data ++ l.toArray⟩ w
  | [], off, acc, _ => by simp [Extern.Bytes.loadBytes]
  | x :: l, off, acc, h => by
    have h0 := h 0 (by simp)
    have hadd : (⟨g, off, none⟩ : Addr).add 1 = ⟨g, off + 1, none⟩ := Addr.add_mid g off 1
    have hl : (load ⟨g, off, none⟩).run P w = .ok (.int .u8 ((x.toNat : Nat) : Int)) w := by
      have : w.cell? ⟨g, off, none⟩ = some (.int .u8 ((x.toNat : Nat) : Int)) := by simpa using h0
      simp [load, Sem.run, this]
    have ih := run_loadBytes l (off + 1) (acc.push x) (fun j hj => by
      have := h (j + 1) (by simp; omega)
      rw [show off + 1 + j = off + (j + 1) by omega, this]
      simp)
    have hx : (((x.toNat : Nat) : Int).toNat.toUInt8) = x := by simp
    simp only [List.length_cons, Extern.Bytes.loadBytes, Sem.run_bind, hl, Result.andThen_ok, hadd, hx, ih]
    congr 1
    simp [ByteArray.push]
theorem run_bytesOf {A : Option Addr} {n c : Nat} {l : List UInt8} (h : Byt w A n l) : (Extern.Bytes.bytesOf (.slice A n c)).run P w = .ok ⟨l.toArray⟩ w := by
  obtain ⟨hl, hc⟩ := h
  rcases Nat.eq_zero_or_pos n with h0 | h0
  · subst h0
    obtain rfl : l = [] := List.eq_nil_of_length_eq_zero hl
    cases A with
    | none => rfl
    | some ad => simp [Extern.Bytes.bytesOf, Extern.Bytes.loadBytes]; rfl
  · obtain ⟨g, off, rfl, hcell⟩ := hc h0
    have := run_loadBytes (P := P) (w := w) (g := g) l off .empty (fun j hj => hcell j (by omega))
    rw [hl] at this
    simpa [Extern.Bytes.bytesOf] using this
theorem run_cmp {f : FuncId} {fn : Func} (hf : P.funcs[f]? = some fn) (hname : (fn.name == "runtime.NumGoroutine") = false) (hb : fn.body.isNone = true) (hn : Extern.findNext fn = none) (he : Extern.find fn = some Extern.BytealgCompare.compare)
    (x y : Operand) (ts : Array TypeId) (ho : o.op = .call { callee := .value (.func f), args := #[x, y], argTypes := ts }) (A : Option Addr) (n c : Nat) (l : List UInt8) (B : Option Addr) (m d : Nat) (r : List UInt8) (hx : a.eval x = .slice A n c) (hy : a.eval y = .slice B m d) (h1 : Byt w A n l) (h2 : Byt w B m r) :
    (execOp a.eval o).run P w = .ok (.value (.int .i64 (compareBytes l r))) w := by
  have key : (Extern.BytealgCompare.compare #[.slice A n c, .slice B m d]).run P w = .ok (.int .i64 (compareBytes l r)) w := by
    change Sem.run P (do pure (goInt (Extern.BytealgCompare.cmp (← Extern.Bytes.bytesOf (.slice A n c)) (← Extern.Bytes.bytesOf (.slice B m d))))) w = _
    simp only [Sem.run_bind, run_bytesOf h1, run_bytesOf h2, Result.andThen_ok, Sem.run_pure, Lib.cmp_eq, goInt]
  exact ext_run f [x, y] ts [.slice A n c, .slice B m d] ho (by simp [hx, hy]) (by rw [run_callFunc_extern hf hname hb hn he]; show ((Extern.BytealgCompare.compare #[.slice A n c, .slice B m d]).run P w).andThen _ = _; rw [key]; rfl)
theorem copy_none (d s : Operand) (dT sT : TypeId) (ho : o.op = .call { callee := .builtin .copy, args := #[d, s], argTypes := #[dT, sT] }) (e : TypeId) (hu : P.underlying dT = some (.slice e)) (hsz : (P.info? e).map (·.size) = some 1) (ad : Addr) (D c : Nat) (hd : a.eval d = .slice (some ad) D c) (hs : a.eval s = .slice none 0 0) :
    (execOp a.eval o).run P w = .ok (.value (.int .i64 0)) w := by
  have := run_copy_nil (P := P) w dT sT o.type e ad D c hu (by rw [hsz]; rfl)
  unfold execOp
  simp only [ho, resolve, invoke, builtin, Sem.run_bind, Sem.run_pure, Result.andThen_ok, List.map_toArray, List.map_cons, List.map_nil, hs, hd, this, goInt]
end
theorem fill_step {cs : List Value} {acc r : List UInt8} {p m q : Nat} (ha : acc.length = p) (hr : r.length = m) (hq : p + m = q) (hl : q ≤ cs.length) : splice (b8s acc ++ cs.drop p) p (b8s r) = b8s (acc ++ r) ++ cs.drop q := by
  subst hq
  unfold splice
  rw [List.take_left' (by rw [b8s_length, ha]), b8s_append, b8s_length, hr, List.append_assoc]
  congr 2
  rw [← List.drop_drop, List.drop_left' (by rw [b8s_length, ha]), List.drop_drop]
theorem fill_len {cs : List Value} {acc : List UInt8} {p : Nat} (ha : acc.length = p) (hl : p ≤ cs.length) : (b8s acc ++ cs.drop p).length = cs.length := by
  rw [List.length_append, b8s_length, List.length_drop, ha]
  omega
theorem byt_fill {w : World} {g n : Nat} {t : TypeId} {fr : Nat × Nat} {l : List UInt8} {cs : List Value} (h : w.heap[g]? = some (.cells (b8s l ++ cs).toArray t fr)) (hl : l.length = n) : Byt w (some ⟨g, 0, none⟩) n l := byt_rng (range_sub 0 (b8s l) h (by simp)) hl
/-- An attest's bytes. -/
def rawL (k r : List UInt8) (n : Int) (t : List UInt8) : List UInt8 := ((k ++ r) ++ e8 (u64n n)) ++ t
theorem e8_be' (u : Nat) (h : u < 18446744073709551616) : be8 (e8 u) = u := by
  have q : ∀ x : Nat, (UInt8.ofNat x).toNat = x % 256 := fun x => by simp
  simp only [be8, e8, List.getD_cons_zero, List.getD_cons_succ, q]
  omega
theorem u64n_inj {n n' : Int} (h1 : -9223372036854775808 ≤ n ∧ n ≤ 9223372036854775807) (h2 : -9223372036854775808 ≤ n' ∧ n' ≤ 9223372036854775807) (h : u64n n = u64n n') : n = n' := by
  have e1 : IntKind.u64.wrap n = n % 18446744073709551616 := rfl
  have e2 : IntKind.u64.wrap n' = n' % 18446744073709551616 := rfl
  unfold u64n at h
  rw [e1, e2] at h
  omega
theorem wf_bounds {n : Int} (h : (Lit.int .i64 n).wf = true) : -9223372036854775808 ≤ n ∧ n ≤ 9223372036854775807 := by
  have h3 : IntKind.i64.min = -9223372036854775808 := by decide
  have h4 : IntKind.i64.max = 9223372036854775807 := by decide
  simpa only [Lit.wf, h3, h4, Bool.and_eq_true, decide_eq_true_eq] using h
theorem rawL_inj {k r t k' r' t' : List UInt8} {n n' : Int} (hk : k.length = 32) (hr : r.length = 32) (hk' : k'.length = 32) (hr' : r'.length = 32) (hn : (Lit.int .i64 n).wf = true) (hn' : (Lit.int .i64 n').wf = true) : rawL k r n t = rawL k' r' n' t' ↔ k = k' ∧ r = r' ∧ n = n' ∧ t = t' := by
  constructor
  · intro h
    unfold rawL at h
    simp only [List.append_assoc] at h
    have h2 := List.append_inj h (by rw [hk, hk'])
    have h3 := List.append_inj h2.2 (by rw [hr, hr'])
    have h4 := List.append_inj h3.2 (by rw [e8_length, e8_length])
    have h5 := congrArg be8 h4.1
    rw [e8_be' _ (u64n_lt n), e8_be' _ (u64n_lt n')] at h5
    exact ⟨h2.1, h3.1, u64n_inj (wf_bounds hn) (wf_bounds hn') h5, h4.2⟩
  · rintro ⟨rfl, rfl, rfl, rfl⟩
    rfl
theorem cmp_self : ∀ l : List UInt8, compareBytes l l = 0
  | [] => rfl
  | x :: l => by
    unfold compareBytes
    rw [if_neg (UInt8.lt_irrefl x), if_neg (UInt8.lt_irrefl x)]
    exact cmp_self l
theorem cmp_flip : ∀ l r : List UInt8, compareBytes r l = - compareBytes l r
  | [], [] => rfl
  | [], _ :: _ => rfl
  | _ :: _, [] => rfl
  | x :: l, y :: r => by
    unfold compareBytes
    by_cases h1 : x < y
    · have h2 : ¬ y < x := UInt8.lt_asymm h1
      rw [if_neg h2, if_pos h1, if_pos h1]
      rfl
    · by_cases h2 : y < x
      · rw [if_pos h2, if_neg h1, if_pos h2]
      · rw [if_neg h2, if_neg h1, if_neg h1, if_neg h2]
        exact cmp_flip l r
theorem cmp_zero : ∀ l r : List UInt8, compareBytes l r = 0 → l = r
  | [], [], _ => rfl
  | [], _ :: _, h => by cases h
  | _ :: _, [], h => by cases h
  | x :: l, y :: r, h => by
    unfold compareBytes at h
    by_cases h1 : x < y
    · rw [if_pos h1] at h; cases h
    · rw [if_neg h1] at h
      by_cases h2 : y < x
      · rw [if_pos h2] at h; cases h
      · rw [if_neg h2] at h
        have : x = y := UInt8.le_antisymm (UInt8.not_lt.1 h2) (UInt8.not_lt.1 h1)
        rw [this, cmp_zero l r h]
theorem cmp_trans : ∀ l r s : List UInt8, compareBytes l r < 0 → compareBytes r s < 0 → compareBytes l s < 0
  | [], [], _, h, _ => by simp [compareBytes] at h
  | [], _ :: _, [], _, h => by simp [compareBytes] at h
  | [], _ :: _, _ :: _, _, _ => by simp [compareBytes]
  | _ :: _, [], _, h, _ => by simp [compareBytes] at h
  | _ :: _, _ :: _, [], _, h => by simp [compareBytes] at h
  | x :: l, y :: r, z :: s, h1, h2 => by
    unfold compareBytes at h1 h2 ⊢
    by_cases a1 : x < y
    · by_cases a2 : y < z
      · rw [if_pos (UInt8.lt_trans a1 a2)]; decide
      · rw [if_neg a2] at h2
        by_cases a3 : z < y
        · rw [if_pos a3] at h2; exact absurd h2 (by decide)
        · have : y = z := UInt8.le_antisymm (UInt8.not_lt.1 a3) (UInt8.not_lt.1 a2)
          subst this
          rw [if_pos a1]; decide
    · rw [if_neg a1] at h1
      by_cases a2 : y < x
      · rw [if_pos a2] at h1; exact absurd h1 (by decide)
      · rw [if_neg a2] at h1
        have : x = y := UInt8.le_antisymm (UInt8.not_lt.1 a2) (UInt8.not_lt.1 a1)
        subst this
        by_cases a3 : x < z
        · rw [if_pos a3]; decide
        · rw [if_neg a3] at h2 ⊢
          by_cases a4 : z < x
          · rw [if_pos a4] at h2; exact absurd h2 (by decide)
          · rw [if_neg a4] at h2 ⊢
            exact cmp_trans l r s h1 h2
end Mur
namespace Mur
open Go Go.RowKit Wk
open Go.Lib (compareBytes)
theorem less_cmp : ∀ l r : List UInt8, Op.bytesLess l r = decide (compareBytes l r < 0)
  | [], [] => rfl
  | [], _ :: _ => rfl
  | _ :: _, [] => rfl
  | x :: l, y :: r => by
    unfold compareBytes Op.bytesLess
    by_cases h1 : x < y
    · rw [if_pos h1, decide_eq_true h1]
      rfl
    · rw [if_neg h1, decide_eq_false h1]
      by_cases h2 : y < x
      · have h3 : (x == y) = false := by
          rw [beq_eq_false_iff_ne]
          rintro rfl
          exact UInt8.lt_irrefl x h2
        rw [if_pos h2, h3]
        rfl
      · have : x = y := UInt8.le_antisymm (UInt8.not_lt.1 h2) (UInt8.not_lt.1 h1)
        rw [if_neg h2, this, less_cmp l r]
        simp
theorem strlss {P : Program} {w : World} {a : Act} {o : Oper} (t ty : TypeId) (x y : Operand) (ho : o.op = .binOp .lss t x y ty) (l r : List UInt8) (hx : a.eval x = .string (str l)) (hy : a.eval y = .string (str r)) : (execOp a.eval o).run P w = .ok (.value (.bool (decide (compareBytes l r < 0)))) w := by
  have hg : (eqGuard .lss t x y (.string (str l)) (.string (str r))).run P w = .ok () w := rfl
  unfold execOp
  simp only [ho, hx, hy]
  simp only [binOp_string_lss, Sem.run_bind, Sem.run_pure, hg, Result.andThen_ok, str_toList, less_cmp]
end Mur
