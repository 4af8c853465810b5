/- A walk of all orders by an invariant. No program in sight. -/
import Derived.Test.YtidhohnhhhooaaaDoorStr
namespace Mur
open Go Go.RowKit
section
variable {P : Program} {ops : Array Oper} {o : Oper} {a : Act} {md : Region.Mode} {S : World → Prop} {Q : Exit → Act → World → Prop}
theorem wpAnyH_inv (J : Nat → Array Bool → Act → World → Prop)
    (hstep : ∀ fuel listed a w i, J (fuel + 1) listed a w → i ∈ Region.ready md ops listed → wpOp P ops Q i (fun a' w' => S w' ∧ J fuel (listed.setIfInBounds i true) a' w') a w)
    (hend : ∀ fuel listed a w, J fuel listed a w → Region.ready md ops listed = [] → Q .normal a w) (h0 : ∀ listed a w, J 0 listed a w → Region.ready md ops listed = []) :
    ∀ fuel listed a w, J fuel listed a w → wpAnyH P md ops Q S fuel listed a w
  | 0, listed, a, w, h => ⟨h0 listed a w h, hend 0 listed a w h (h0 listed a w h)⟩
  | fuel + 1, listed, a, w, h => ⟨fun hr => hend _ listed a w h hr, fun i hi => wpOp_mono (fun _ _ h' => ⟨h'.1, wpAnyH_inv J hstep hend h0 fuel _ _ _ h'.2⟩) (hstep fuel listed a w i h hi)⟩
/-- What a ready operation tells. -/
theorem ready_spec {listed : Array Bool} {i : Nat} (h : i ∈ Region.ready md ops listed) : listed.getD i true = false ∧ ∃ o, ops[i]? = some o ∧ ∀ e ∈ o.after, Region.binds md e = true → listed.getD e.on false = true := by
  obtain ⟨h1, o, ho, hall⟩ := mem_ready.1 h
  exact ⟨h1, o, ho, hall⟩
theorem op_plain {i : Nat} {K : Act → World → Prop} {w w1 : World} (v : Value) (hi : ops[i]? = some o) (hgd : o.guard = none) (hrun : (execOp a.eval o).run P w = .ok (.value v) w1) (h : K (a.put o.dst v) w1) : wpOp P ops Q i K a w :=
  wpOp_of_wp hi hgd (by unfold Oper.wp; rw [hrun, Oper.upon_value]; exact h)
theorem op_call {i : Nat} {K : Act → World → Prop} {w : World} (f : FuncId) (xs : List Operand) (ts : Array TypeId) (vals : List Value) (hi : ops[i]? = some o) (hgd : o.guard = none)
    (ho : o.op = .call { callee := .value (.func f), args := xs.toArray, argTypes := ts }) (hv : xs.map a.eval = vals) (hrun : (callFunc f vals.toArray).run P w = .ok (.enter f vals.toArray) w)
    (hc : Calls P f vals.toArray w fun e w' => ∃ v, e = .returned v ∧ K (a.put o.dst v) w') : wpOp P ops Q i K a w := by
  refine wpOp_of_wp hi hgd ?_
  obtain ⟨dst, op, ty, pos, after, guard⟩ := o
  simp only at ho
  subst ho
  unfold Oper.wp
  rw [execOp_call_go, List.map_toArray, hv, show #[] ++ vals.toArray ++ #[] = vals.toArray by simp, hrun, Oper.upon_enter]
  refine hc.mono ?_
  rintro e w' ⟨v, rfl, h⟩
  exact h
theorem run_op_cut {w : World} (t : TypeId) (x y z : Operand) (ho : o.op = .slice t x (some y) (some z) none) (e : TypeId) (ht : P.underlying t = some (.slice e)) (hsz : (P.info? e).map (·.size) = some 1)
    (A : Option Addr) (n c l m : Nat) (hx : a.eval x = .slice A n c) (hy : a.eval y = .int .i64 (l : Int)) (hz : a.eval z = .int .i64 (m : Int)) (hl : l ≤ m) (hm : m ≤ n) (hnc : n ≤ c) :
    (execOp a.eval o).run P w = .ok (.value (.slice (cutA A c l) (m - l) (c - l))) w := by
  unfold execOp
  simp only [ho, hx, hy, hz, Option.map_some, Option.map_none, Sem.run_bind, run_cut t e ht hsz A n c l m hl hm hnc, Result.andThen_ok, Sem.run_pure]
theorem run_op_cut_from {w : World} (t : TypeId) (x y : Operand) (ho : o.op = .slice t x (some y) none none) (e : TypeId) (ht : P.underlying t = some (.slice e)) (hsz : (P.info? e).map (·.size) = some 1)
    (A : Option Addr) (n c l : Nat) (hx : a.eval x = .slice A n c) (hy : a.eval y = .int .i64 (l : Int)) (hl : l ≤ n) (hnc : n ≤ c) :
    (execOp a.eval o).run P w = .ok (.value (.slice (cutA A c l) (n - l) (c - l))) w := by
  unfold execOp
  simp only [ho, hx, hy, Option.map_some, Option.map_none, Sem.run_bind, run_cut_from t e ht hsz A n c l hl hnc, Result.andThen_ok, Sem.run_pure]
end
end Mur
