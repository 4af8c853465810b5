/- Steps of a walk of all orders; digests compared. No program in sight. -/
import Derived.Test.YtljfjjofhclhiaaDoorApp
import Derived.Test.YtljfjjofhclhiaaDoorBytes
import Derived.DeepKeys
import Derived.Laws.StructEq
namespace Mur
open Go Go.RowKit
section
variable {P : Program} {ops : Array Oper} {o : Oper} {a : Act} {md : Region.Mode} {S : World → Prop} {Q : Exit → Act → World → Prop} {i fuel : Nat} {listed : Array Bool} {w : World}
/-- Number i taken first: it yields v in every world that meets S. -/
theorem hTake (i : Nat) (v : Value) (hi : ops[i]? = some o) (hs : Region.noSelect ops = true) (hf : Region.free md ops listed i = true) (hr : (Region.ready md ops listed).contains i = true)
    (hQ : ∀ c a w, Q (.panic c) (a.put o.dst v) w → Q (.panic c) a w) (hw : Region.wanted o (yielded ops a.tmps) = true) (hrun : ∀ w, S w → (execOp a.eval o).run P w = .ok (.value v) w) (hS : S w)
    (h : wpAnyH P md ops Q S fuel (listed.setIfInBounds i true) (a.put o.dst v) w) : wpAnyH P md ops Q S (fuel + 1) listed a w :=
  wpAnyH_take hi hs hf hr hQ (.inl ⟨hw, hrun⟩) hS h
/-- Number i passed over: its guard says so. -/
theorem hPass (i : Nat) (hi : ops[i]? = some o) (hs : Region.noSelect ops = true) (hf : Region.free md ops listed i = true) (hr : (Region.ready md ops listed).contains i = true)
    (hQ : ∀ c a w, Q (.panic c) (a.put o.dst undef) w → Q (.panic c) a w) (hw : Region.wanted o (yielded ops a.tmps) = false) (hS : S w)
    (h : wpAnyH P md ops Q S fuel (listed.setIfInBounds i true) (a.put o.dst undef) w) : wpAnyH P md ops Q S (fuel + 1) listed a w :=
  wpAnyH_take hi hs hf hr hQ (.inr ⟨hw, rfl⟩) hS h
/-- Number i, the only one that may come up: a call. -/
theorem hCall (i : Nat) (f : FuncId) (xs : List Operand) (ts : Array TypeId) (vals : List Value) (hr : Region.ready md ops listed = [i]) (hi : ops[i]? = some o) (hw : Region.wanted o (yielded ops a.tmps) = true)
    (ho : o.op = .call { callee := .value (.func f), args := xs.toArray, argTypes := ts }) (hv : xs.map a.eval = vals) (hrun : (callFunc f vals.toArray).run P w = .ok (.enter f vals.toArray) w)
    (hc : Calls P f vals.toArray w fun e w' => ∃ v, e = .returned v ∧ S w' ∧ wpAnyH P md ops Q S fuel (listed.setIfInBounds i true) (a.put o.dst v) w') : wpAnyH P md ops Q S (fuel + 1) listed a w := by
  refine wpAnyH_one hr ?_
  unfold wpOp
  simp only [hi]
  rw [if_pos hw]
  refine .inl ?_
  obtain ⟨dst, op, ty, pos, after, guard⟩ := o
  simp only at ho
  subst ho
  unfold Oper.wp
  rw [execOp_call_go, List.map_toArray, hv, show #[] ++ vals.toArray ++ #[] = vals.toArray by simp, hrun, Oper.upon_enter]
  refine hc.mono ?_
  rintro e w' ⟨v, rfl, h1, h2⟩
  exact ⟨h1, h2⟩
/-- Number i, the only one that may come up: it yields v and leaves w1. -/
theorem hOne (i : Nat) (v : Value) (w1 : World) (hr : Region.ready md ops listed = [i]) (hi : ops[i]? = some o) (hw : Region.wanted o (yielded ops a.tmps) = true)
    (hrun : (execOp a.eval o).run P w = .ok (.value v) w1) (hS : S w1) (h : wpAnyH P md ops Q S fuel (listed.setIfInBounds i true) (a.put o.dst v) w1) : wpAnyH P md ops Q S (fuel + 1) listed a w := by
  refine wpAnyH_one hr ?_
  unfold wpOp
  simp only [hi]
  rw [if_pos hw]
  refine .inl ?_
  unfold Oper.wp
  rw [hrun, Oper.upon_value]
  exact ⟨hS, h⟩
theorem run_op_convert {w1 : World} (s t : TypeId) (x : Operand) (u v : Value) (ho : o.op = .convert s t x) (hx : a.eval x = u) (h : (convert s t u).run P w = .ok v w1) : (execOp a.eval o).run P w = .ok (.value v) w1 := by
  unfold execOp
  simp only [ho, hx, Sem.run_bind, h, Result.andThen_ok, Sem.run_pure]
/-- What a load of a whole row yields. -/
theorem run_op_row (ty : TypeId) (x : Operand) (ho : o.op = .load ty x) (g : Nat) (hx : a.eval x = .pointer (some ⟨g, 0, none⟩)) (t : TypeId) (cs : Array Value) (fr : Nat × Nat) (d : TypeDesc) (hg : w.heap[g]? = some (.cells cs t fr))
    (hu : P.underlying ty = some d) (hd : (match d with | .struct _ | .array _ _ => true | _ => false) = true) (hi : (P.info? ty).map (·.size) = some cs.size) : (execOp a.eval o).run P w = .ok (.value (.agg cs)) w := by
  unfold execOp
  simp only [ho, hx, Instr.loadAt, Instr.sureAddr, Sem.run_bind, Sem.run_pure, Result.andThen_ok, run_loadVar_row w g t ty cs fr d hg hu hd hi]
end

theorem mapM_all {α β : Type} (f : α → Option β) (g : α → β) : ∀ l : List α, (∀ x ∈ l, f x = some (g x)) → l.mapM f = some (l.map g)
  | [], _ => rfl
  | x :: l, h => by
    rw [List.mapM_cons, h x (by simp), mapM_all f g l (fun y hy => h y (by simp [hy]))]
    rfl
section
variable {P : Program}
/-- What digests are made of. -/
structure DigT (P : Program) (T e : TypeId) : Prop where
  ty : P.underlying T = some (.array 32 e)
  el : P.underlying e = some (.int .u8)
  ce : P.cellsOf e = 1
  ct : P.cellsOf T = 32
  key : P.keyTypeAt 2 T = true
  quiet : P.eqGuardType P.depth T = false
def litOf (d : List UInt8) (i : Nat) : List Lit := [.int .u8 ((d.getD i 0).toNat : Int)]
theorem keyLits_dig {T e : TypeId} (h : DigT P T e) (d : List UInt8) (hd : d.length = 32) : P.keyLits 2 T (b8s d) = some ((List.range 32).map (litOf d)).flatten := by
  unfold Program.keyLits
  simp only [h.ty]
  rw [if_pos (by rw [b8s_length, hd, h.ct]), mapM_all _ (litOf d)]
  · rfl
  · intro i hi
    have hi' : i < 32 := by simpa using hi
    have hl : i < (b8s d).length := by rw [b8s_length]; omega
    rw [h.ce, Nat.mul_one, List.drop_eq_getElem_cons hl, List.take_succ_cons, List.take_zero]
    have hg := b8s_get d i (by omega)
    rw [List.getElem?_eq_getElem hl] at hg
    rw [Option.some.inj hg]
    unfold Program.keyLits
    simp only [h.el]
    have := (d.getD i 0).toNat_lt
    have hwf : (Lit.int .u8 ((d.getD i 0).toNat : Int)).wf = true := by
      have h1 : IntKind.u8.min = 0 := by decide
      have h2 : IntKind.u8.max = 255 := by decide
      simp only [Lit.wf, h1, h2, Bool.and_eq_true, decide_eq_true_eq]
      omega
    exact if_pos ⟨trivial, hwf⟩
theorem lits_inj {d d' : List UInt8} (hd : d.length = 32) (hd' : d'.length = 32) : ((List.range 32).map (litOf d)).flatten = ((List.range 32).map (litOf d')).flatten ↔ d = d' := by
  constructor
  · intro h
    have e : ∀ x : List UInt8, ((List.range 32).map (litOf x)).flatten = (List.range 32).map fun i => Lit.int .u8 ((x.getD i 0).toNat : Int) := by
      intro x
      generalize List.range 32 = l
      induction l with
      | nil => rfl
      | cons i l ih => simp only [List.map_cons, List.flatten_cons, ih]; rfl
    rw [e, e] at h
    refine List.ext_getElem (by omega) fun i h1 h2 => ?_
    have := List.map_inj_left.1 h i (by simp; omega)
    injection this with _ this
    have h3 := UInt8.toNat_inj.1 (Int.ofNat.inj this)
    simpa [List.getD_eq_getElem?_getD, h1, h2] using h3
  · rintro rfl
    rfl
theorem run_eql_dig {T e : TypeId} (h : DigT P T e) (d d' : List UInt8) (hd : d.length = 32) (hd' : d'.length = 32) (w : World) (x y : Operand) (ty : TypeId) (a : Act) (o : Oper) (ho : o.op = .binOp .eql T x y ty)
    (hx : a.eval x = .agg (b8s d).toArray) (hy : a.eval y = .agg (b8s d').toArray) : (execOp a.eval o).run P w = .ok (.value (.bool (decide (d = d')))) w := by
  have hf : ∀ x : List UInt8, x.length = 32 → (Value.agg (b8s x).toArray).formed P T = true := by
    intro x hx
    simp [Value.formed, h.ty, h.ct, b8s_length, hx]
  obtain ⟨r, hr, hiff⟩ := run_equalIn_deep (P := P) 9998 2 T h.key w 2 2 (.agg (b8s d).toArray) (.agg (b8s d').toArray) _ _ (hf d hd) (hf d' hd') (keyLits_dig h d hd) (keyLits_dig h d' hd')
  rw [lits_inj hd hd'] at hiff
  have hr' : r = decide (d = d') := by
    by_cases e : d = d'
    · rw [decide_eq_true e]; exact hiff.2 e
    · rw [decide_eq_false e]
      cases r
      · rfl
      · exact absurd (hiff.1 rfl) e
  subst hr'
  unfold execOp
  simp only [ho, hx, hy, Sem.run_bind, run_eqGuard_agg w _ _ _ _ _ _ h.quiet, Result.andThen_ok, run_eql_struct, Sem.run_pure]
  rw [show (10000 : Nat) = 9998 + 2 from rfl, hr]
  rfl
theorem run_eql_true {T e : TypeId} (h : DigT P T e) (d d' : List UInt8) (hd : d.length = 32) (he : d = d') (w : World) (x y : Operand) (ty : TypeId) {a : Act} {o : Oper} (ho : o.op = .binOp .eql T x y ty)
    (hx : a.eval x = .agg (b8s d).toArray) (hy : a.eval y = .agg (b8s d').toArray) : (execOp a.eval o).run P w = .ok (.value (.bool true)) w := by
  rw [run_eql_dig h d d' hd (he ▸ hd) w x y ty a o ho hx hy, decide_eq_true he]
end
end Mur
