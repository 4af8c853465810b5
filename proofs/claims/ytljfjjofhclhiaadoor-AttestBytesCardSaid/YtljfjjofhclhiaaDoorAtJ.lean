/- Bytes joined and compared: the two entries without a body; a row filled from the front. -/
import Derived.Test.YtljfjjofhclhiaaDoorAtR
import Derived.Lib.MakeNoZero
import Derived.Lib.Bytealg
import Derived.Laws.Externs
namespace Mur
open Go Go.RowKit Wk
open Go.Lib (compareBytes)
section
variable {P : Program} {w : World} {a : Act} {o : Oper}
theorem ext_run {w1 : World} (f : FuncId) (xs : List Operand) (ts : Array TypeId) (vals : List Value) (ho : o.op = .call { callee := .value (.func f), args := xs.toArray, argTypes := ts }) (hv : xs.map a.eval = vals) {v : Value} (h : (callFunc f vals.toArray).run P w = .ok (.value v) w1) : (execOp a.eval o).run P w = .ok (.value v) w1 := by
  obtain ⟨dst, op, ty, pos, after, guard⟩ := o
  simp only at ho
  subst ho
  rw [execOp_call_go, List.map_toArray, hv, show #[] ++ vals.toArray ++ #[] = vals.toArray by simp, h]
theorem run_nz {f : FuncId} {fn : Func} (ps : Array TypeId) (t e : TypeId) (hf : P.funcs[f]? = some fn) (hname : (fn.name == "runtime.NumGoroutine") = false) (hb : fn.body.isNone = true) (hn : Extern.findNext fn = none) (he : Extern.find fn = some (Extern.BytealgMakeNoZero.makeNoZero ps #[t]))
    (ht : P.underlying t = some (.slice e)) (x : Operand) (ts : Array TypeId) (ho : o.op = .call { callee := .value (.func f), args := #[x], argTypes := ts }) (n : Nat) (hx : a.eval x = .int .i64 ((n : Nat) : Int)) (hm : n ≤ 1000) :
    ∃ v1 w1, (execOp a.eval o).run P w = .ok (.value v1) w1 ∧ ∃ cs : List Value, v1 = .slice (some ⟨w.heap.size, 0, none⟩) n cs.length ∧ w1.heap[w.heap.size]? = some (.cells cs.toArray e (0, 0)) ∧ n ≤ cs.length ∧ Chg [] w w1 ∧ w.heap.size < w1.heap.size := by
  obtain ⟨cs, h1, h2, _⟩ := Lib.run_makeNoZero (P := P) (w := w) ps t e ht n (by omega)
  refine ⟨_, _, ext_run f [x] ts [.int .i64 ((n : Nat) : Int)] ho (by simp [hx]) (by rw [run_callFunc_extern hf hname hb hn he]; show ((Extern.BytealgMakeNoZero.makeNoZero ps #[t] #[.int .i64 n]).run P w).andThen _ = _; rw [h1]; rfl), cs.toList, by simp, by simpa using heap_alloc_new w.drew.drew _, by simpa using h2, ?_, by simp⟩
  exact ⟨rfl, rfl, rfl, by simp, fun k hk _ => Below.heap_alloc w.drew.drew _ k hk⟩
theorem run_loadBytes {g : Nat} : ∀ (l : List UInt8) (off : Nat) (acc : ByteArray), (∀ j, j < l.length → w.cell? ⟨g, off + j, none⟩ = some (.int .u8 ((l.getD j 0).toNat : Int))) → (Extern.Bytes.loadBytes ⟨g, off, none⟩ l.length acc).run P w = .ok ⟨acc.data ++ l.toArray⟩ w
  | [], off, acc, _ => by simp [Extern.Bytes.loadBytes]
  | x :: l, off, acc, h => by
    have h0 := h 0 (by simp)
    have hadd : (⟨g, off, none⟩ : Addr).add 1 = ⟨g, off + 1, none⟩ := Addr.add_mid g off 1
    have hl : (load ⟨g, off, none⟩).run P w = .ok (.int .u8 ((x.toNat : Nat) : Int)) w := by
      have : w.cell? ⟨g, off, none⟩ = some (.int .u8 ((x.toNat : Nat) : Int)) := by simpa using h0
      simp [load, Sem.run, this]
    have ih := run_loadBytes l (off + 1) (acc.push x) (fun j hj => by
      have := h (j + 1) (by simp; omega)
      rw [show off + 1 + j = off + (j + 1) by omega, this]
      simp)
    have hx : (((x.toNat : Nat) : Int).toNat.toUInt8) = x := by simp
    simp only [List.length_cons, Extern.Bytes.loadBytes, Sem.run_bind, hl, Result.andThen_ok, hadd, hx, ih]
    congr 1
    simp [ByteArray.push]
theorem run_bytesOf {A : Option Addr} {n c : Nat} {l : List UInt8} (h : Byt w A n l) : (Extern.Bytes.bytesOf (.slice A n c)).run P w = .ok ⟨l.toArray⟩ w := by
  obtain ⟨hl, hc⟩ := h
  rcases Nat.eq_zero_or_pos n with h0 | h0
  · subst h0
    obtain rfl : l = [] := List.eq_nil_of_length_eq_zero hl
    cases A with
    | none => rfl
    | some ad => simp [Extern.Bytes.bytesOf, Extern.Bytes.loadBytes]; rfl
  · obtain ⟨g, off, rfl, hcell⟩ := hc h0
    have := run_loadBytes (P := P) (w := w) (g := g) l off .empty (fun j hj => hcell j (by omega))
    rw [hl] at this
    simpa [Extern.Bytes.bytesOf] using this
theorem run_cmp {f : FuncId} {fn : Func} (hf : P.funcs[f]? = some fn) (hname : (fn.name == "runtime.NumGoroutine") = false) (hb : fn.body.isNone = true) (hn : Extern.findNext fn = none) (he : Extern.find fn = some Extern.BytealgCompare.compare)
    (x y : Operand) (ts : Array TypeId) (ho : o.op = .call { callee := .value (.func f), args := #[x, y], argTypes := ts }) (A : Option Addr) (n c : Nat) (l : List UInt8) (B : Option Addr) (m d : Nat) (r : List UInt8) (hx : a.eval x = .slice A n c) (hy : a.eval y = .slice B m d) (h1 : Byt w A n l) (h2 : Byt w B m r) :
    (execOp a.eval o).run P w = .ok (.value (.int .i64 (compareBytes l r))) w := by
  have key : (Extern.BytealgCompare.compare #[.slice A n c, .slice B m d]).run P w = .ok (.int .i64 (compareBytes l r)) w := by
    change Sem.run P (do pure (goInt (Extern.BytealgCompare.cmp (← Extern.Bytes.bytesOf (.slice A n c)) (← Extern.Bytes.bytesOf (.slice B m d))))) w = _
    simp only [Sem.run_bind, run_bytesOf h1, run_bytesOf h2, Result.andThen_ok, Sem.run_pure, Lib.cmp_eq, goInt]
  exact ext_run f [x, y] ts [.slice A n c, .slice B m d] ho (by simp [hx, hy]) (by rw [run_callFunc_extern hf hname hb hn he]; show ((Extern.BytealgCompare.compare #[.slice A n c, .slice B m d]).run P w).andThen _ = _; rw [key]; rfl)
theorem copy_none (d s : Operand) (dT sT : TypeId) (ho : o.op = .call { callee := .builtin .copy, args := #[d, s], argTypes := #[dT, sT] }) (e : TypeId) (hu : P.underlying dT = some (.slice e)) (hsz : (P.info? e).map (·.size) = some 1) (ad : Addr) (D c : Nat) (hd : a.eval d = .slice (some ad) D c) (hs : a.eval s = .slice none 0 0) :
    (execOp a.eval o).run P w = .ok (.value (.int .i64 0)) w := by
  have := run_copy_nil (P := P) w dT sT o.type e ad D c hu (by rw [hsz]; rfl)
  unfold execOp
  simp only [ho, resolve, invoke, builtin, Sem.run_bind, Sem.run_pure, Result.andThen_ok, List.map_toArray, List.map_cons, List.map_nil, hs, hd, this, goInt]
end
theorem fill_step {cs : List Value} {acc r : List UInt8} {p m q : Nat} (ha : acc.length = p) (hr : r.length = m) (hq : p + m = q) (hl : q ≤ cs.length) : splice (b8s acc ++ cs.drop p) p (b8s r) = b8s (acc ++ r) ++ cs.drop q := by
  subst hq
  unfold splice
  rw [List.take_left' (by rw [b8s_length, ha]), b8s_append, b8s_length, hr, List.append_assoc]
  congr 2
  rw [← List.drop_drop, List.drop_left' (by rw [b8s_length, ha]), List.drop_drop]
theorem fill_len {cs : List Value} {acc : List UInt8} {p : Nat} (ha : acc.length = p) (hl : p ≤ cs.length) : (b8s acc ++ cs.drop p).length = cs.length := by
  rw [List.length_append, b8s_length, List.length_drop, ha]
  omega
theorem byt_fill {w : World} {g n : Nat} {t : TypeId} {fr : Nat × Nat} {l : List UInt8} {cs : List Value} (h : w.heap[g]? = some (.cells (b8s l ++ cs).toArray t fr)) (hl : l.length = n) : Byt w (some ⟨g, 0, none⟩) n l := byt_rng (range_sub 0 (b8s l) h (by simp)) hl
/-- An attest's bytes. -/
def rawL (k r : List UInt8) (n : Int) (t : List UInt8) : List UInt8 := ((k ++ r) ++ e8 (u64n n)) ++ t
theorem e8_be' (u : Nat) (h : u < 18446744073709551616) : be8 (e8 u) = u := by
  have q : ∀ x : Nat, (UInt8.ofNat x).toNat = x % 256 := fun x => by simp
  simp only [be8, e8, List.getD_cons_zero, List.getD_cons_succ, q]
  omega
theorem u64n_inj {n n' : Int} (h1 : -9223372036854775808 ≤ n ∧ n ≤ 9223372036854775807) (h2 : -9223372036854775808 ≤ n' ∧ n' ≤ 9223372036854775807) (h : u64n n = u64n n') : n = n' := by
  have e1 : IntKind.u64.wrap n = n % 18446744073709551616 := rfl
  have e2 : IntKind.u64.wrap n' = n' % 18446744073709551616 := rfl
  unfold u64n at h
  rw [e1, e2] at h
  omega
theorem wf_bounds {n : Int} (h : (Lit.int .i64 n).wf = true) : -9223372036854775808 ≤ n ∧ n ≤ 9223372036854775807 := by
  have h3 : IntKind.i64.min = -9223372036854775808 := by decide
  have h4 : IntKind.i64.max = 9223372036854775807 := by decide
  simpa only [Lit.wf, h3, h4, Bool.and_eq_true, decide_eq_true_eq] using h
theorem rawL_inj {k r t k' r' t' : List UInt8} {n n' : Int} (hk : k.length = 32) (hr : r.length = 32) (hk' : k'.length = 32) (hr' : r'.length = 32) (hn : (Lit.int .i64 n).wf = true) (hn' : (Lit.int .i64 n').wf = true) : rawL k r n t = rawL k' r' n' t' ↔ k = k' ∧ r = r' ∧ n = n' ∧ t = t' := by
  constructor
  · intro h
    unfold rawL at h
    simp only [List.append_assoc] at h
    have h2 := List.append_inj h (by rw [hk, hk'])
    have h3 := List.append_inj h2.2 (by rw [hr, hr'])
    have h4 := List.append_inj h3.2 (by rw [e8_length, e8_length])
    have h5 := congrArg be8 h4.1
    rw [e8_be' _ (u64n_lt n), e8_be' _ (u64n_lt n')] at h5
    exact ⟨h2.1, h3.1, u64n_inj (wf_bounds hn) (wf_bounds hn') h5, h4.2⟩
  · rintro ⟨rfl, rfl, rfl, rfl⟩
    rfl
theorem cmp_self : ∀ l : List UInt8, compareBytes l l = 0
  | [] => rfl
  | x :: l => by
    unfold compareBytes
    rw [if_neg (UInt8.lt_irrefl x), if_neg (UInt8.lt_irrefl x)]
    exact cmp_self l
theorem cmp_flip : ∀ l r : List UInt8, compareBytes r l = - compareBytes l r
  | [], [] => rfl
  | [], _ :: _ => rfl
  | _ :: _, [] => rfl
  | x :: l, y :: r => by
    unfold compareBytes
    by_cases h1 : x < y
    · have h2 : ¬ y < x := UInt8.lt_asymm h1
      rw [if_neg h2, if_pos h1, if_pos h1]
      rfl
    · by_cases h2 : y < x
      · rw [if_pos h2, if_neg h1, if_pos h2]
      · rw [if_neg h2, if_neg h1, if_neg h1, if_neg h2]
        exact cmp_flip l r
theorem cmp_zero : ∀ l r : List UInt8, compareBytes l r = 0 → l = r
  | [], [], _ => rfl
  | [], _ :: _, h => by cases h
  | _ :: _, [], h => by cases h
  | x :: l, y :: r, h => by
    unfold compareBytes at h
    by_cases h1 : x < y
    · rw [if_pos h1] at h; cases h
    · rw [if_neg h1] at h
      by_cases h2 : y < x
      · rw [if_pos h2] at h; cases h
      · rw [if_neg h2] at h
        have : x = y := UInt8.le_antisymm (UInt8.not_lt.1 h2) (UInt8.not_lt.1 h1)
        rw [this, cmp_zero l r h]
theorem cmp_trans : ∀ l r s : List UInt8, compareBytes l r < 0 → compareBytes r s < 0 → compareBytes l s < 0
  | [], [], _, h, _ => by simp [compareBytes] at h
  | [], _ :: _, [], _, h => by simp [compareBytes] at h
  | [], _ :: _, _ :: _, _, _ => by simp [compareBytes]
  | _ :: _, [], _, h, _ => by simp [compareBytes] at h
  | _ :: _, _ :: _, [], _, h => by simp [compareBytes] at h
  | x :: l, y :: r, z :: s, h1, h2 => by
    unfold compareBytes at h1 h2 ⊢
    by_cases a1 : x < y
    · by_cases a2 : y < z
      · rw [if_pos (UInt8.lt_trans a1 a2)]; decide
      · rw [if_neg a2] at h2
        by_cases a3 : z < y
        · rw [if_pos a3] at h2; exact absurd h2 (by decide)
        · have : y = z := UInt8.le_antisymm (UInt8.not_lt.1 a3) (UInt8.not_lt.1 a2)
          subst this
          rw [if_pos a1]; decide
    · rw [if_neg a1] at h1
      by_cases a2 : y < x
      · rw [if_pos a2] at h1; exact absurd h1 (by decide)
      · rw [if_neg a2] at h1
        have : x = y := UInt8.le_antisymm (UInt8.not_lt.1 a2) (UInt8.not_lt.1 a1)
        subst this
        by_cases a3 : x < z
        · rw [if_pos a3]; decide
        · rw [if_neg a3] at h2 ⊢
          by_cases a4 : z < x
          · rw [if_pos a4] at h2; exact absurd h2 (by decide)
          · rw [if_neg a4] at h2 ⊢
            exact cmp_trans l r s h1 h2
end Mur
namespace Mur
open Go Go.RowKit Wk
open Go.Lib (compareBytes)
theorem less_cmp : ∀ l r : List UInt8, Op.bytesLess l r = decide (compareBytes l r < 0)
  | [], [] => rfl
  | [], _ :: _ => rfl
  | _ :: _, [] => rfl
  | x :: l, y :: r => by
    unfold compareBytes Op.bytesLess
    by_cases h1 : x < y
    · rw [if_pos h1, decide_eq_true h1]
      rfl
    · rw [if_neg h1, decide_eq_false h1]
      by_cases h2 : y < x
      · have h3 : (x == y) = false := by
          rw [beq_eq_false_iff_ne]
          rintro rfl
          exact UInt8.lt_irrefl x h2
        rw [if_pos h2, h3]
        rfl
      · have : x = y := UInt8.le_antisymm (UInt8.not_lt.1 h2) (UInt8.not_lt.1 h1)
        rw [if_neg h2, this, less_cmp l r]
        simp
theorem strlss {P : Program} {w : World} {a : Act} {o : Oper} (t ty : TypeId) (x y : Operand) (ho : o.op = .binOp .lss t x y ty) (l r : List UInt8) (hx : a.eval x = .string (str l)) (hy : a.eval y = .string (str r)) : (execOp a.eval o).run P w = .ok (.value (.bool (decide (compareBytes l r < 0)))) w := by
  have hg : (eqGuard .lss t x y (.string (str l)) (.string (str r))).run P w = .ok () w := rfl
  unfold execOp
  simp only [ho, hx, hy]
  simp only [binOp_string_lss, Sem.run_bind, Sem.run_pure, hg, Result.andThen_ok, str_toList, less_cmp]
end Mur
