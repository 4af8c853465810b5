/- Two digests, byte by byte. No program in sight. -/
import Derived.Test.YtljfjjofhclhiaaDoorHmD
import Derived.Test.YtljfjjofhclhiaaDoorDkTwo
namespace Mur
open Go Go.RowKit Wk
theorem u8_zero {u : UInt8} (h : ((u.toNat : Nat) : Int) = 0) : u = 0 := UInt8.toNat_inj.1 (by show u.toNat = 0; omega)
theorem or_zero (u v : UInt8) : u ||| v = 0 ↔ u = 0 ∧ v = 0 := by
  constructor
  · intro h
    have h1 : u.toBitVec ||| v.toBitVec = 0 := by rw [← UInt8.toBitVec_or, h]; rfl
    have h2 := BitVec.or_eq_zero_iff.1 h1
    exact ⟨UInt8.toBitVec_inj.1 h2.1, UInt8.toBitVec_inj.1 h2.2⟩
  · rintro ⟨rfl, rfl⟩
    rfl
theorem xor_zero (u v : UInt8) : u ^^^ v = 0 ↔ u = v := by
  constructor
  · intro h
    have h1 : u.toBitVec ^^^ v.toBitVec = 0 := by rw [← UInt8.toBitVec_xor, h]; rfl
    exact UInt8.toBitVec_inj.1 (BitVec.xor_eq_zero_iff.1 h1)
  · rintro rfl
    exact UInt8.xor_self
theorem same_step {d d' : List UInt8} {n i : Nat} {u : UInt8} (hd : d.length = n) (hd' : d'.length = n) (hi : i < n) (hu : u = 0 ↔ d.take i = d'.take i) : u ||| (d.getD i 0 ^^^ d'.getD i 0) = 0 ↔ d.take (i + 1) = d'.take (i + 1) := by
  rw [or_zero, xor_zero, hu, List.take_succ_eq_append_getElem (by omega), List.take_succ_eq_append_getElem (by omega)]
  have e1 : d.getD i 0 = d[i]'(by omega) := by simp [List.getD_eq_getElem?_getD, show i < d.length by omega]
  have e2 : d'.getD i 0 = d'[i]'(by omega) := by simp [List.getD_eq_getElem?_getD, show i < d'.length by omega]
  rw [e1, e2]
  constructor
  · rintro ⟨h1, h2⟩
    rw [h1, h2]
  · intro h
    have := List.append_inj h (by simp; omega)
    exact ⟨this.1, by simpa using this.2⟩
theorem same_fin {d d' : List UInt8} {n : Nat} {u : UInt8} (hd : d.length = n) (hd' : d'.length = n) (hu : u = 0 ↔ d.take n = d'.take n) : u = 0 ↔ d = d' := by
  rw [hu, List.take_of_length_le (by omega), List.take_of_length_le (by omega)]
theorem set_same {d : List UInt8} {j : Nat} {t : UInt8} (h : t = 0) : d.set j (d.getD j 0 ^^^ t) = d := by
  subst h
  rw [UInt8.xor_zero]
  by_cases hj : j < d.length
  · simp [List.getD_eq_getElem?_getD, hj]
  · rw [List.set_eq_of_length_le (by omega)]
theorem set_other {d : List UInt8} {j : Nat} {t : UInt8} (hj : j < d.length) (h : ¬ t = 0) : ¬ d = d.set j (d.getD j 0 ^^^ t) := by
  intro e
  have h1 : d.getD j 0 = (d.set j (d.getD j 0 ^^^ t)).getD j 0 := congrArg (fun l => l.getD j 0) e
  have h2 : (d.set j (d.getD j 0 ^^^ t)).getD j 0 = d.getD j 0 ^^^ t := by
    simp [List.getD_eq_getElem?_getD, hj]
  rw [h2] at h1
  refine h ?_
  have h3 : d.getD j 0 ^^^ (d.getD j 0 ^^^ t) = 0 := by rw [← h1]; exact UInt8.xor_self
  rw [← UInt8.xor_assoc, UInt8.xor_self, UInt8.zero_xor] at h3
  exact h3
section
variable {P : Program}
theorem run_eql_no {T e : TypeId} (h : DigT P T e) (d d' : List UInt8) (hd : d.length = 32) (hd' : d'.length = 32) (he : ¬ d = d') (w : World) (x y : Operand) (ty : TypeId) {a : Act} {o : Oper} (ho : o.op = .binOp .eql T x y ty)
    (hx : a.eval x = .agg (b8s d).toArray) (hy : a.eval y = .agg (b8s d').toArray) : (execOp a.eval o).run P w = .ok (.value (.bool false)) w := by
  rw [run_eql_dig h d d' hd hd' w x y ty a o ho hx hy, decide_eq_false he]
theorem run_eql_yes {T e : TypeId} (h : DigT P T e) (d d' : List UInt8) (hd : d.length = 32) (hd' : d'.length = 32) (he : d = d') (w : World) (x y : Operand) (ty : TypeId) {a : Act} {o : Oper} (ho : o.op = .binOp .eql T x y ty)
    (hx : a.eval x = .agg (b8s d).toArray) (hy : a.eval y = .agg (b8s d').toArray) : (execOp a.eval o).run P w = .ok (.value (.bool true)) w := by
  rw [run_eql_dig h d d' hd hd' w x y ty a o ho hx hy, decide_eq_true he]
end
end Mur
