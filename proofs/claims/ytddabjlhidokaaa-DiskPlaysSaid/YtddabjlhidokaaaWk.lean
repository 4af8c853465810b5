/- Explicit steps of a walk: each operation by its own run, in plain regions and in regions that draw their order; what becomes of the world. No program in sight. -/
import Derived.OrdersHeld
import Derived.LoopN
import Derived.WalkKit
import Derived.Lib.Hide
import Derived.Deep.MidRow
import Derived.Deep.Draws
namespace Wk
open Go Go.RowKit
section control
variable {P : Program} {Q : Exit → Act → World → Prop} {next : Act → World → Prop} {a : Act} {w : World}
theorem nxt (h : next a w) : Exit.then next Q .normal a w := h
theorem thX {id : Nat} (h : Q (.exit id) a w) : Exit.then next Q (.exit id) a w := h
theorem thR (h : Q .ret a w) : Exit.then next Q .ret a w := h
theorem inN {id : Nat} (h : Q .normal a w) : Exit.inBlock id Q .normal a w := h
theorem inR {id : Nat} (h : Q .ret a w) : Exit.inBlock id Q .ret a w := h
theorem inX {id : Nat} (h : Q .normal a w) : Exit.inBlock id Q (.exit id) a w := by simp only [Exit.inBlock, if_pos]; exact h
theorem inY {id id' : Nat} (e : (id' == id) = false) (h : Q (.exit id') a w) : Exit.inBlock id Q (.exit id') a w := by
  simp only [Exit.inBlock]
  rw [if_neg (by simpa using e)]
  exact h
/-- A loop, its measure a number that the invariant names. -/
theorem loop {c : Code} (I : Nat → Act → World → Prop) (m0 : Nat) (h0 : I m0 a w)
    (round : ∀ m a w, I m a w → c.wp P (Exit.then (fun a' w' => ∃ m', m' < m ∧ I m' a' w') Q) a w) : (Code.loop c).wp P Q a w := by
  classical
  have key : ∀ n, ∀ m a w, m ≤ n → I m a w → ∃ k, I k a w ∧ ∀ j, j < k → ¬ I j a w := by
    intro n
    induction n with
    | zero => exact fun m a w hm h => ⟨m, h, fun j hj => by omega⟩
    | succ n ih =>
      intro m a w hm h
      by_cases hx : ∃ j, j < m ∧ I j a w
      · obtain ⟨j, hj, hI⟩ := hx
        exact ih j a w (by omega) hI
      · exact ⟨m, h, fun j hj hI => hx ⟨j, hj, hI⟩⟩
  let μ : Act → World → Nat := fun a w => if h : ∃ k, I k a w ∧ ∀ j, j < k → ¬ I j a w then Classical.choose h else 0
  have hμ : ∀ a w, (∃ m, I m a w) → I (μ a w) a w ∧ ∀ j, j < μ a w → ¬ I j a w := by
    rintro a w ⟨m, hm⟩
    have hx := key m m a w (Nat.le_refl _) hm
    simp only [μ, dif_pos hx]
    exact Classical.choose_spec hx
  refine wp_loop (fun a w => ∃ m, I m a w) μ ⟨m0, h0⟩ fun a w hI => ?_
  refine wp_mono (round _ _ _ (hμ a w hI).1) fun e a' w' hq => ?_
  cases e with
  | normal =>
    obtain ⟨m', hlt, hI'⟩ := hq
    refine ⟨⟨m', hI'⟩, ?_⟩
    have h2 := (hμ a' w' ⟨m', hI'⟩).2
    rcases Nat.lt_or_ge m' (μ a' w') with h | h
    · exact absurd hI' (h2 _ h)
    · exact Nat.lt_of_le_of_lt h hlt
  | _ => exact hq
/-- The ways meet again. -/
theorem cut {c : Code} (R : Act → World → Prop) (h : c.wp P (Exit.then R Q) a w) (k : ∀ a w, R a w → Q .normal a w) : c.wp P Q a w :=
  wp_mono h fun e a w hq => by
    cases e with
    | normal => exact k a w hq
    | _ => exact hq
theorem retN {fn : Func} {R : Ending → World → Prop} (v : Value) (hd : a.defers = []) (hr : (results fn a.tmps).run P w = .ok v w) (h : R (.returned v) w) : bodyPost P fn R .normal a w := ⟨hd, v, hr, h⟩
/-- A loop, round by round. -/
structure Rds (P : Program) (c : Code) (Q : Exit → Act → World → Prop) (n : Nat) (a : Act) (w : World) : Prop where
  out : Code.rounds P c Q n a w
theorem loopN {c : Code} (n : Nat) (h : Rds P c Q n a w) : (Code.loop c).wp P Q a w := wp_loop_rounds n h.out
theorem rdS {c : Code} {n : Nat} (h : c.wp P (Exit.then (Rds P c Q n) Q) a w) : Rds P c Q (n + 1) a w := ⟨wp_mono h fun e a w hq => by
  cases e with
  | normal => exact hq.out
  | _ => exact hq⟩
theorem ret {fn : Func} {R : Ending → World → Prop} (v : Value) (hd : a.defers = []) (hr : (results fn a.tmps).run P w = .ok v w) (h : R (.returned v) w) : bodyPost P fn R .ret a w := ⟨hd, v, hr, h⟩
end control
section plain
variable {P : Program} {ops : Array Oper} {Q : Exit → Act → World → Prop} {a : Act} {w w1 : World} {o : Oper}
/-- From operation i on. -/
structure From (P : Program) (ops : Array Oper) (Q : Exit → Act → World → Prop) (i : Nat) (a : Act) (w : World) : Prop where
  out : wpOps P ops Q ((List.range ops.size).drop i) a w
theorem reg {id : Nat} (h : From P ops Q 0 a w) : (Code.region id ops false).wp P Q a w := wp_region h.out
theorem from_step {i : Nat} (hi : ops[i]? = some o) (h : wpOp P ops Q i (From P ops Q (i + 1)) a w) : From P ops Q i a w := by
  have hlt : i < ops.size := (Array.getElem?_eq_some_iff.1 hi).1
  refine ⟨?_⟩
  rw [List.drop_eq_getElem_cons (by simpa using hlt), List.getElem_range, wpOps_cons]
  exact wpOp_mono (fun _ _ h => h.out) h
theorem rEnd (i : Nat) (hi : (ops.size == i) = true) (h : Q .normal a w) : From P ops Q i a w := by
  refine ⟨?_⟩
  rw [List.drop_of_length_le (by simp only [List.length_range]; exact Nat.le_of_eq (by simpa using hi))]
  exact h
theorem rVal (i : Nat) (d : Option Tmp) (v : Value) (hi : ops[i]? = some o) (hd : o.dst = d) (hw : Region.wanted o (yielded ops a.tmps) = true) (hrun : (execOp a.eval o).run P w = .ok (.value v) w1)
    (h : From P ops Q (i + 1) (a.put d v) w1) : From P ops Q i a w := by
  subst hd
  refine from_step hi ?_
  unfold wpOp
  simp only [hi]
  rw [if_pos hw]
  refine .inl ?_
  unfold Oper.wp
  rw [hrun, Oper.upon_value]
  exact h
theorem rPure (i : Nat) (d : Option Tmp) (v : Value) (hi : ops[i]? = some o) (hd : o.dst = d) (hw : Region.wanted o (yielded ops a.tmps) = true) (hrun : (execOp a.eval o).run P w = .ok (.value v) w)
    (h : From P ops Q (i + 1) (a.put d v) w) : From P ops Q i a w := rVal i d v hi hd hw hrun h
theorem rSkip (i : Nat) (d : Option Tmp) (hi : ops[i]? = some o) (hd : o.dst = d) (hw : Region.wanted o (yielded ops a.tmps) = true) (hrun : (execOp a.eval o).run P w = .ok .skip w1)
    (h : From P ops Q (i + 1) (a.put d undef) w1) : From P ops Q i a w := by
  subst hd
  refine from_step hi ?_
  unfold wpOp
  simp only [hi]
  rw [if_pos hw]
  refine .inl ?_
  unfold Oper.wp
  rw [hrun]
  exact h
theorem rPass (i : Nat) (d : Option Tmp) (hi : ops[i]? = some o) (hd : o.dst = d) (hw : Region.wanted o (yielded ops a.tmps) = false) (h : From P ops Q (i + 1) (a.put d undef) w) : From P ops Q i a w := by
  subst hd
  refine from_step hi ?_
  unfold wpOp
  simp only [hi, hw]
  exact h
theorem rEx (i : Nat) (d : Option Tmp) (F : Value → World → Prop) (hi : ops[i]? = some o) (hd : o.dst = d) (hw : Region.wanted o (yielded ops a.tmps) = true) (hrun : ∃ v w1, (execOp a.eval o).run P w = .ok (.value v) w1 ∧ F v w1)
    (h : ∀ v w1, F v w1 → From P ops Q (i + 1) (a.put d v) w1) : From P ops Q i a w := by
  obtain ⟨v, w1, h1, h2⟩ := hrun
  exact rVal i d v hi hd hw h1 (h v w1 h2)
theorem rExS (i : Nat) (d : Option Tmp) (F : World → Prop) (hi : ops[i]? = some o) (hd : o.dst = d) (hw : Region.wanted o (yielded ops a.tmps) = true) (hrun : ∃ w1, (execOp a.eval o).run P w = .ok .skip w1 ∧ F w1)
    (h : ∀ w1, F w1 → From P ops Q (i + 1) (a.put d undef) w1) : From P ops Q i a w := by
  obtain ⟨w1, h1, h2⟩ := hrun
  exact rSkip i d hi hd hw h1 (h w1 h2)
theorem rCall (i : Nat) (d : Option Tmp) (f : FuncId) (xs : List Operand) (ts : Array TypeId) (vals : List Value) (hi : ops[i]? = some o) (hd : o.dst = d) (hw : Region.wanted o (yielded ops a.tmps) = true)
    (ho : o.op = .call { callee := .value (.func f), args := xs.toArray, argTypes := ts }) (hv : xs.map a.eval = vals) (hrun : (callFunc f vals.toArray).run P w = .ok (.enter f vals.toArray) w)
    (hc : Calls P f vals.toArray w fun e w' => ∃ v, e = .returned v ∧ From P ops Q (i + 1) (a.put d v) w') : From P ops Q i a w := by
  subst hd
  refine from_step hi ?_
  unfold wpOp
  simp only [hi]
  rw [if_pos hw]
  refine .inl ?_
  obtain ⟨dst, op, ty, pos, after, guard⟩ := o
  simp only at ho
  subst ho
  unfold Oper.wp
  rw [execOp_call_go, List.map_toArray, hv, show #[] ++ vals.toArray ++ #[] = vals.toArray by simp, hrun, Oper.upon_enter]
  refine hc.mono ?_
  rintro e w' ⟨v, rfl, h1⟩
  exact h1
end plain
/-- One operation of a region that draws its order. -/
structure At (P : Program) (ops : Array Oper) (Q : Exit → Act → World → Prop) (i : Nat) (K : Act → World → Prop) (a : Act) (w : World) : Prop where
  out : wpOp P ops Q i K a w
section drawn
variable {P : Program} {ops : Array Oper} {o : Oper} {a : Act} {S : World → Prop} {Q : Exit → Act → World → Prop} {fuel : Nat} {listed : Array Bool} {w w1 : World}
/-- Operation i taken first: it yields v in every world that meets S. -/
theorem dVal (i : Nat) (d : Option Tmp) (v : Value) (hi : ops[i]? = some o) (hd : o.dst = d) (hs : Region.noSelect ops = true) (hf : Region.free .any ops listed i = true) (hr : (Region.ready .any ops listed).contains i = true)
    (hQ : ∀ c a w, Q (.panic c) (a.put d v) w → Q (.panic c) a w) (hw : Region.wanted o (yielded ops a.tmps) = true) (hrun : ∀ w, S w → (execOp a.eval o).run P w = .ok (.value v) w) (hS : S w)
    (h : wpAnyH P .any ops Q S fuel (listed.setIfInBounds i true) (a.put d v) w) : wpAnyH P .any ops Q S (fuel + 1) listed a w := by
  subst hd
  exact wpAnyH_take hi hs hf hr hQ (.inl ⟨hw, hrun⟩) hS h
theorem dPass (i : Nat) (d : Option Tmp) (hi : ops[i]? = some o) (hd : o.dst = d) (hs : Region.noSelect ops = true) (hf : Region.free .any ops listed i = true) (hr : (Region.ready .any ops listed).contains i = true)
    (hQ : ∀ c a w, Q (.panic c) (a.put d undef) w → Q (.panic c) a w) (hw : Region.wanted o (yielded ops a.tmps) = false) (hS : S w)
    (h : wpAnyH P .any ops Q S fuel (listed.setIfInBounds i true) (a.put d undef) w) : wpAnyH P .any ops Q S (fuel + 1) listed a w := by
  subst hd
  exact wpAnyH_take hi hs hf hr hQ (.inr ⟨hw, rfl⟩) hS h
theorem dOp (i : Nat) (hr : Region.ready .any ops listed = [i]) (h : At P ops Q i (fun a' w' => S w' ∧ wpAnyH P .any ops Q S fuel (listed.setIfInBounds i true) a' w') a w) : wpAnyH P .any ops Q S (fuel + 1) listed a w :=
  wpAnyH_all hr (by simp) fun j hj => by
    obtain rfl : j = i := by simpa using hj
    exact h.out
theorem dOp2 (i j : Nat) (hr : Region.ready .any ops listed = [i, j]) (h : At P ops Q i (fun a' w' => S w' ∧ wpAnyH P .any ops Q S fuel (listed.setIfInBounds i true) a' w') a w)
    (k : At P ops Q j (fun a' w' => S w' ∧ wpAnyH P .any ops Q S fuel (listed.setIfInBounds j true) a' w') a w) : wpAnyH P .any ops Q S (fuel + 1) listed a w :=
  wpAnyH_all hr (by simp) fun l hl => by
    rcases List.mem_cons.1 hl with rfl | hl
    · exact h.out
    · obtain rfl : l = j := by simpa using hl
      exact k.out
theorem dOp3 (i j k : Nat) (hr : Region.ready .any ops listed = [i, j, k]) (h : At P ops Q i (fun a' w' => S w' ∧ wpAnyH P .any ops Q S fuel (listed.setIfInBounds i true) a' w') a w)
    (h2 : At P ops Q j (fun a' w' => S w' ∧ wpAnyH P .any ops Q S fuel (listed.setIfInBounds j true) a' w') a w)
    (h3 : At P ops Q k (fun a' w' => S w' ∧ wpAnyH P .any ops Q S fuel (listed.setIfInBounds k true) a' w') a w) : wpAnyH P .any ops Q S (fuel + 1) listed a w :=
  wpAnyH_all hr (by simp) fun l hl => by
    rcases List.mem_cons.1 hl with rfl | hl
    · exact h.out
    · rcases List.mem_cons.1 hl with rfl | hl
      · exact h2.out
      · obtain rfl : l = k := by simpa using hl
        exact h3.out
theorem oVal {i : Nat} {K : Act → World → Prop} (d : Option Tmp) (v : Value) (hi : ops[i]? = some o) (hd : o.dst = d) (hw : Region.wanted o (yielded ops a.tmps) = true) (hrun : (execOp a.eval o).run P w = .ok (.value v) w1)
    (h : K (a.put d v) w1) : At P ops Q i K a w := by
  subst hd
  refine ⟨?_⟩
  unfold wpOp
  simp only [hi]
  rw [if_pos hw]
  refine .inl ?_
  unfold Oper.wp
  rw [hrun, Oper.upon_value]
  exact h
theorem oSkip {i : Nat} {K : Act → World → Prop} (d : Option Tmp) (hi : ops[i]? = some o) (hd : o.dst = d) (hw : Region.wanted o (yielded ops a.tmps) = true) (hrun : (execOp a.eval o).run P w = .ok .skip w1)
    (h : K (a.put d undef) w1) : At P ops Q i K a w := by
  subst hd
  refine ⟨?_⟩
  unfold wpOp
  simp only [hi]
  rw [if_pos hw]
  refine .inl ?_
  unfold Oper.wp
  rw [hrun]
  exact h
theorem oEx {i : Nat} {K : Act → World → Prop} (d : Option Tmp) (F : Value → World → Prop) (hi : ops[i]? = some o) (hd : o.dst = d) (hw : Region.wanted o (yielded ops a.tmps) = true) (hrun : ∃ v w1, (execOp a.eval o).run P w = .ok (.value v) w1 ∧ F v w1)
    (h : ∀ v w1, F v w1 → K (a.put d v) w1) : At P ops Q i K a w := by
  obtain ⟨v, w1, h1, h2⟩ := hrun
  exact oVal d v hi hd hw h1 (h v w1 h2)
theorem oExS {i : Nat} {K : Act → World → Prop} (d : Option Tmp) (F : World → Prop) (hi : ops[i]? = some o) (hd : o.dst = d) (hw : Region.wanted o (yielded ops a.tmps) = true) (hrun : ∃ w1, (execOp a.eval o).run P w = .ok .skip w1 ∧ F w1)
    (h : ∀ w1, F w1 → K (a.put d undef) w1) : At P ops Q i K a w := by
  obtain ⟨w1, h1, h2⟩ := hrun
  exact oSkip d hi hd hw h1 (h w1 h2)
theorem oCall {i : Nat} {K : Act → World → Prop} (d : Option Tmp) (f : FuncId) (xs : List Operand) (ts : Array TypeId) (vals : List Value) (hi : ops[i]? = some o) (hd : o.dst = d) (hw : Region.wanted o (yielded ops a.tmps) = true)
    (ho : o.op = .call { callee := .value (.func f), args := xs.toArray, argTypes := ts }) (hv : xs.map a.eval = vals) (hrun : (callFunc f vals.toArray).run P w = .ok (.enter f vals.toArray) w)
    (hc : Calls P f vals.toArray w fun e w' => ∃ v, e = .returned v ∧ K (a.put d v) w') : At P ops Q i K a w := by
  subst hd
  refine ⟨?_⟩
  unfold wpOp
  simp only [hi]
  rw [if_pos hw]
  refine .inl ?_
  obtain ⟨dst, op, ty, pos, after, guard⟩ := o
  simp only at ho
  subst ho
  unfold Oper.wp
  rw [execOp_call_go, List.map_toArray, hv, show #[] ++ vals.toArray ++ #[] = vals.toArray by simp, hrun, Oper.upon_enter]
  refine hc.mono ?_
  rintro e w' ⟨v, rfl, h1⟩
  exact h1
/-- The orders meet again within a region: behind some operations. -/
theorem dTail (fuel' : Nat) (L : Array Bool) (R : Act → World → Prop) (tail : ∀ l a w, l = L → R a w → S w → wpAnyH P .any ops Q S fuel' l a w)
    (go : (∀ l a w, l = L → R a w → S w → wpAnyH P .any ops Q S fuel' l a w) → wpAnyH P .any ops Q S fuel listed a w) : wpAnyH P .any ops Q S fuel listed a w := go tail
theorem dEnd (hr : Region.ready .any ops listed = []) (h : Q .normal a w) : wpAnyH P .any ops Q S fuel listed a w := wpAnyH_done hr h _
end drawn
section runs
variable {P : Program} {w w1 : World} {s : Sem Next}
theorem int64 {n z : Int} (e : n = z) (lo : -9223372036854775808 ≤ z) (hi : z ≤ 9223372036854775807) (h : s.run P w = .ok (.value (.int .i64 (IntKind.i64.wrap n))) w1) : s.run P w = .ok (.value (.int .i64 z)) w1 := by
  subst e
  rw [h, show IntKind.i64.wrap n = n from IntWalk.i64_in n ⟨by omega, by omega⟩]
theorem boolT {b : Bool} (e : b = true) (h : s.run P w = .ok (.value (.bool b)) w1) : s.run P w = .ok (.value (.bool true)) w1 := by rw [h, e]
theorem boolF {b : Bool} (e : b = false) (h : s.run P w = .ok (.value (.bool b)) w1) : s.run P w = .ok (.value (.bool false)) w1 := by rw [h, e]
theorem val {v v' : Value} (e : v = v') (h : s.run P w = .ok (.value v) w1) : s.run P w = .ok (.value v') w1 := by rw [h, e]
end runs
end Wk
