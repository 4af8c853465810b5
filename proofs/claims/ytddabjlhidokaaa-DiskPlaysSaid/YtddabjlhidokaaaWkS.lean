/- Strings in explicit steps. No program in sight. -/
import Derived.Test.YtddabjlhidokaaaDk
import Derived.Laws.Strings
namespace Mur
open Go Go.RowKit Wk
section
set_option linter.unusedSimpArgs false
variable {P : Program} {w : World} {a : Act} {o : Oper}
theorem str_toList (l : List UInt8) : (str l).toList = l := by rw [Go.ByteArray.toList_eq]; simp [str]
theorem streq (t ty : TypeId) (x y : Operand) (ho : o.op = .binOp .eql t x y ty) (l r : List UInt8) (hx : a.eval x = .string (str l)) (hy : a.eval y = .string (str r)) : (execOp a.eval o).run P w = .ok (.value (.bool (decide (l = r)))) w := by
  unfold execOp
  simp only [ho, hx, hy]
  simp only [eqGuard, binOp_string_eql, binOp_string_neq, Sem.run_bind, Sem.run_pure, Result.andThen_ok, str_toList]
  by_cases h : l = r <;> simp [h]
theorem strne (t ty : TypeId) (x y : Operand) (ho : o.op = .binOp .neq t x y ty) (l r : List UInt8) (hx : a.eval x = .string (str l)) (hy : a.eval y = .string (str r)) : (execOp a.eval o).run P w = .ok (.value (.bool (decide (l ≠ r)))) w := by
  unfold execOp
  simp only [ho, hx, hy]
  simp only [eqGuard, binOp_string_eql, binOp_string_neq, Sem.run_bind, Sem.run_pure, Result.andThen_ok, str_toList]
  by_cases h : l = r <;> simp [h]
theorem strlen (x : Operand) (t : TypeId) (ho : o.op = .call { callee := .builtin .len, args := #[x], argTypes := #[t] }) (ht : P.underlying t = some .string) (l : List UInt8) (hx : a.eval x = .string (str l)) : (execOp a.eval o).run P w = .ok (.value (.int .i64 ((l.length : Nat) : Int))) w := by
  unfold execOp
  simp only [ho]
  simp [resolve, invoke, builtin, Builtin.len_, run_underlying ht, hx, str_size, goInt]
theorem strto (t : TypeId) (x z : Operand) (ho : o.op = .slice t x none (some z) none) (ht : P.underlying t = some .string) (l : List UInt8) (h : Nat) (hx : a.eval x = .string (str l)) (hz : a.eval z = .int .i64 (h : Int)) (hh : h ≤ l.length) :
    (execOp a.eval o).run P w = .ok (.value (.string (str (l.take h)))) w := by
  have e : (str l).extract 0 h = str (l.take h) := by
    apply ByteArray.ext
    simp [str]
  unfold execOp
  simp only [ho, hx, hz, Option.map_some, Option.map_none]
  simp [Instr.sliceAt, Instr.slice, Instr.sliceBounds, run_underlying ht, str_size, run_sliceBound w .i64 (h : Int) l.length _ (by omega) (by omega), e]
end
end Mur
