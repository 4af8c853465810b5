/- What the row rests on, part 4. -/
import Derived.Lib.MakeNoZero
import Derived.Lib.Bytealg
import Derived.Laws.Externs
import Derived.RangeFuncMany
import Derived.RangeFuncCalls
import Derived.RangeFuncKeeps
import Derived.TacticsIn
import Derived.OrdersIn
import Derived.Scope
import Derived.Lib.Overlaps
import Derived.Lib.AppendZerosOnto
import Derived.Test.YtfhneademopciaaDoorProg
import Derived.Test.YtfhneademopciaaDoorPT3
import Derived.Test.YtfhneademopciaaDoorPT2
namespace Mur
open Go Go.RowKit Wk
open Go.Lib (compareBytes)
section
variable {P : Program} {w : World} {a : Act} {o : Oper}
theorem ext_run {w1 : World} (f : FuncId) (xs : List Operand) (ts : Array TypeId) (vals : List Value) (ho : o.op = .call { callee := .value (.func f), args := xs.toArray, argTypes := ts }) (hv : xs.map a.eval = vals) {v : Value} (h : (callFunc f vals.toArray).run P w = .ok (.value v) w1) : (execOp a.eval o).run P w = .ok (.value v) w1 := by
  obtain ⟨dst, op, ty, pos, after, guard⟩ := o
  simp only at ho
  subst ho
  rw [execOp_call_go, List.map_toArray, hv, show #[] ++ vals.toArray ++ #[] = vals.toArray by simp, h]
theorem run_nz {f : FuncId} {fn : Func} (ps : Array TypeId) (t e : TypeId) (hf : P.funcs[f]? = some fn) (hname : (fn.name == "runtime.NumGoroutine") = false) (hb : fn.body.isNone = true) (hn : Extern.findNext fn = none) (he : Extern.find fn = some (Extern.BytealgMakeNoZero.makeNoZero ps #[t]))
    (ht : P.underlying t = some (.slice e)) (x : Operand) (ts : Array TypeId) (ho : o.op = .call { callee := .value (.func f), args := #[x], argTypes := ts }) (n : Nat) (hx : a.eval x = .int .i64 ((n : Nat) : Int)) (hm : n ≤ 1000) :
    ∃ v1 w1, (execOp a.eval o).run P w = .ok (.value v1) w1 ∧ ∃ cs : List Value, v1 = .slice (some ⟨w.heap.size, 0, none⟩) n cs.length ∧ w1.heap[w.heap.size]? = some (.cells cs.toArray e (0, 0)) ∧ n ≤ cs.length ∧ Chg [] w w1 ∧ w.heap.size < w1.heap.size := by
  obtain ⟨cs, h1, h2, _⟩ := Lib.run_makeNoZero (P := P) (w := w) ps t e ht n (by omega)
  refine ⟨_, _, ext_run f [x] ts [.int .i64 ((n : Nat) : Int)] ho (by simp [hx]) (by rw [run_callFunc_extern hf hname hb hn he]; show ((Extern.BytealgMakeNoZero.makeNoZero ps #[t] #[.int .i64 n]).run P w).andThen _ = _; rw [h1]; rfl), cs.toList, by simp, by simpa using heap_alloc_new w.drew.drew _, by simpa using h2, ?_, by simp⟩
  exact ⟨rfl, rfl, rfl, by simp, fun k hk _ => Below.heap_alloc w.drew.drew _ k hk⟩
theorem run_loadBytes {g : Nat} : ∀ (l : List UInt8) (off : Nat) (acc : ByteArray), (∀ j, j < l.length → w.cell? ⟨g, off + j, none⟩ = some (.int .u8 ((l.getD j 0).toNat : Int))) → (Extern.Bytes.loadBytes ⟨g, off, none⟩ l.length acc).run P w = .ok ⟨acc.data ++ l.toArray⟩ w
  | [], off, acc, _ => by simp [Extern.Bytes.loadBytes]
  | x :: l, off, acc, h => by
    have h0 := h 0 (by simp)
    have hadd : (⟨g, off, none⟩ : Addr).add 1 = ⟨g, off + 1, none⟩ := Addr.add_mid g off 1
    have hl : (load ⟨g, off, none⟩).run P w = .ok (.int .u8 ((x.toNat : Nat) : Int)) w := by
      have : w.cell? ⟨g, off, none⟩ = some (.int .u8 ((x.toNat : Nat) : Int)) := by simpa using h0
      simp [load, Sem.run, this]
    have ih := run_loadBytes l (off + 1) (acc.push x) (fun j hj => by
      have := h (j + 1) (by simp; omega)
      rw [show off + 1 + j = off + (j + 1) by omega, this]
      simp)
    have hx : (((x.toNat : Nat) : Int).toNat.toUInt8) = x := by simp
    simp only [List.length_cons, Extern.Bytes.loadBytes, Sem.run_bind, hl, Result.andThen_ok, hadd, hx, ih]
    congr 1
    simp [ByteArray.push]
theorem run_bytesOf {A : Option Addr} {n c : Nat} {l : List UInt8} (h : Byt w A n l) : (Extern.Bytes.bytesOf (.slice A n c)).run P w = .ok ⟨l.toArray⟩ w := by
  obtain ⟨hl, hc⟩ := h
  rcases Nat.eq_zero_or_pos n with h0 | h0
  · subst h0
    obtain rfl : l = [] := List.eq_nil_of_length_eq_zero hl
    cases A with
    | none => rfl
    | some ad => simp [Extern.Bytes.bytesOf, Extern.Bytes.loadBytes]; rfl
  · obtain ⟨g, off, rfl, hcell⟩ := hc h0
    have := run_loadBytes (P := P) (w := w) (g := g) l off .empty (fun j hj => hcell j (by omega))
    rw [hl] at this
    simpa [Extern.Bytes.bytesOf] using this
theorem run_cmp {f : FuncId} {fn : Func} (hf : P.funcs[f]? = some fn) (hname : (fn.name == "runtime.NumGoroutine") = false) (hb : fn.body.isNone = true) (hn : Extern.findNext fn = none) (he : Extern.find fn = some Extern.BytealgCompare.compare)
    (x y : Operand) (ts : Array TypeId) (ho : o.op = .call { callee := .value (.func f), args := #[x, y], argTypes := ts }) (A : Option Addr) (n c : Nat) (l : List UInt8) (B : Option Addr) (m d : Nat) (r : List UInt8) (hx : a.eval x = .slice A n c) (hy : a.eval y = .slice B m d) (h1 : Byt w A n l) (h2 : Byt w B m r) :
    (execOp a.eval o).run P w = .ok (.value (.int .i64 (compareBytes l r))) w := by
  have key : (Extern.BytealgCompare.compare #[.slice A n c, .slice B m d]).run P w = .ok (.int .i64 (compareBytes l r)) w := by
    change Sem.run P (do pure (goInt (Extern.BytealgCompare.cmp (← Extern.Bytes.bytesOf (.slice A n c)) (← Extern.Bytes.bytesOf (.slice B m d))))) w = _
    simp only [Sem.run_bind, run_bytesOf h1, run_bytesOf h2, Result.andThen_ok, Sem.run_pure, Lib.cmp_eq, goInt]
  exact ext_run f [x, y] ts [.slice A n c, .slice B m d] ho (by simp [hx, hy]) (by rw [run_callFunc_extern hf hname hb hn he]; show ((Extern.BytealgCompare.compare #[.slice A n c, .slice B m d]).run P w).andThen _ = _; rw [key]; rfl)
theorem copy_none (d s : Operand) (dT sT : TypeId) (ho : o.op = .call { callee := .builtin .copy, args := #[d, s], argTypes := #[dT, sT] }) (e : TypeId) (hu : P.underlying dT = some (.slice e)) (hsz : (P.info? e).map (·.size) = some 1) (ad : Addr) (D c : Nat) (hd : a.eval d = .slice (some ad) D c) (hs : a.eval s = .slice none 0 0) :
    (execOp a.eval o).run P w = .ok (.value (.int .i64 0)) w := by
  have := run_copy_nil (P := P) w dT sT o.type e ad D c hu (by rw [hsz]; rfl)
  unfold execOp
  simp only [ho, resolve, invoke, builtin, Sem.run_bind, Sem.run_pure, Result.andThen_ok, List.map_toArray, List.map_cons, List.map_nil, hs, hd, this, goInt]
end
theorem fill_step {cs : List Value} {acc r : List UInt8} {p m q : Nat} (ha : acc.length = p) (hr : r.length = m) (hq : p + m = q) (hl : q ≤ cs.length) : splice (b8s acc ++ cs.drop p) p (b8s r) = b8s (acc ++ r) ++ cs.drop q := by
  subst hq
  unfold splice
  rw [List.take_left' (by rw [b8s_length, ha]), b8s_append, b8s_length, hr, List.append_assoc]
  congr 2
  rw [← List.drop_drop, List.drop_left' (by rw [b8s_length, ha]), List.drop_drop]
theorem fill_len {cs : List Value} {acc : List UInt8} {p : Nat} (ha : acc.length = p) (hl : p ≤ cs.length) : (b8s acc ++ cs.drop p).length = cs.length := by
  rw [List.length_append, b8s_length, List.length_drop, ha]
  omega
theorem byt_fill {w : World} {g n : Nat} {t : TypeId} {fr : Nat × Nat} {l : List UInt8} {cs : List Value} (h : w.heap[g]? = some (.cells (b8s l ++ cs).toArray t fr)) (hl : l.length = n) : Byt w (some ⟨g, 0, none⟩) n l := byt_rng (range_sub 0 (b8s l) h (by simp)) hl
def rawL (k r : List UInt8) (n : Int) (t : List UInt8) : List UInt8 := ((k ++ r) ++ e8 (u64n n)) ++ t
theorem e8_be' (u : Nat) (h : u < 18446744073709551616) : be8 (e8 u) = u := by
  have q : ∀ x : Nat, (UInt8.ofNat x).toNat = x % 256 := fun x => by simp
  simp only [be8, e8, List.getD_cons_zero, List.getD_cons_succ, q]
  omega
theorem u64n_inj {n n' : Int} (h1 : -9223372036854775808 ≤ n ∧ n ≤ 9223372036854775807) (h2 : -9223372036854775808 ≤ n' ∧ n' ≤ 9223372036854775807) (h : u64n n = u64n n') : n = n' := by
  have e1 : IntKind.u64.wrap n = n % 18446744073709551616 := rfl
  have e2 : IntKind.u64.wrap n' = n' % 18446744073709551616 := rfl
  unfold u64n at h
  rw [e1, e2] at h
  omega
theorem wf_bounds {n : Int} (h : (Lit.int .i64 n).wf = true) : -9223372036854775808 ≤ n ∧ n ≤ 9223372036854775807 := by
  have h3 : IntKind.i64.min = -9223372036854775808 := by decide
  have h4 : IntKind.i64.max = 9223372036854775807 := by decide
  simpa only [Lit.wf, h3, h4, Bool.and_eq_true, decide_eq_true_eq] using h
theorem rawL_inj {k r t k' r' t' : List UInt8} {n n' : Int} (hk : k.length = 32) (hr : r.length = 32) (hk' : k'.length = 32) (hr' : r'.length = 32) (hn : (Lit.int .i64 n).wf = true) (hn' : (Lit.int .i64 n').wf = true) : rawL k r n t = rawL k' r' n' t' ↔ k = k' ∧ r = r' ∧ n = n' ∧ t = t' := by
  constructor
  · intro h
    unfold rawL at h
    simp only [List.append_assoc] at h
    have h2 := List.append_inj h (by rw [hk, hk'])
    have h3 := List.append_inj h2.2 (by rw [hr, hr'])
    have h4 := List.append_inj h3.2 (by rw [e8_length, e8_length])
    have h5 := congrArg be8 h4.1
    rw [e8_be' _ (u64n_lt n), e8_be' _ (u64n_lt n')] at h5
    exact ⟨h2.1, h3.1, u64n_inj (wf_bounds hn) (wf_bounds hn') h5, h4.2⟩
  · rintro ⟨rfl, rfl, rfl, rfl⟩
    rfl
theorem cmp_self : ∀ l : List UInt8, compareBytes l l = 0
  | [] => rfl
  | x :: l => by
    unfold compareBytes
    rw [if_neg (UInt8.lt_irrefl x), if_neg (UInt8.lt_irrefl x)]
    exact cmp_self l
theorem cmp_flip : ∀ l r : List UInt8, compareBytes r l = - compareBytes l r
  | [], [] => rfl
  | [], _ :: _ => rfl
  | _ :: _, [] => rfl
  | x :: l, y :: r => by
    unfold compareBytes
    by_cases h1 : x < y
    · have h2 : ¬ y < x := UInt8.lt_asymm h1
      rw [if_neg h2, if_pos h1, if_pos h1]
      rfl
    · by_cases h2 : y < x
      · rw [if_pos h2, if_neg h1, if_pos h2]
      · rw [if_neg h2, if_neg h1, if_neg h1, if_neg h2]
        exact cmp_flip l r
theorem cmp_zero : ∀ l r : List UInt8, compareBytes l r = 0 → l = r
  | [], [], _ => rfl
  | [], _ :: _, h => by cases h
  | _ :: _, [], h => by cases h
  | x :: l, y :: r, h => by
    unfold compareBytes at h
    by_cases h1 : x < y
    · rw [if_pos h1] at h; cases h
    · rw [if_neg h1] at h
      by_cases h2 : y < x
      · rw [if_pos h2] at h; cases h
      · rw [if_neg h2] at h
        have : x = y := UInt8.le_antisymm (UInt8.not_lt.1 h2) (UInt8.not_lt.1 h1)
        rw [this, cmp_zero l r h]
theorem cmp_trans : ∀ l r s : List UInt8, compareBytes l r < 0 → compareBytes r s < 0 → compareBytes l s < 0
  | [], [], _, h, _ => by simp [compareBytes] at h
  | [], _ :: _, [], _, h => by simp [compareBytes] at h
  | [], _ :: _, _ :: _, _, _ => by simp [compareBytes]
  | _ :: _, [], _, h, _ => by simp [compareBytes] at h
  | _ :: _, _ :: _, [], _, h => by simp [compareBytes] at h
  | x :: l, y :: r, z :: s, h1, h2 => by
    unfold compareBytes at h1 h2 ⊢
    by_cases a1 : x < y
    · by_cases a2 : y < z
      · rw [if_pos (UInt8.lt_trans a1 a2)]; decide
      · rw [if_neg a2] at h2
        by_cases a3 : z < y
        · rw [if_pos a3] at h2; exact absurd h2 (by decide)
        · have : y = z := UInt8.le_antisymm (UInt8.not_lt.1 a3) (UInt8.not_lt.1 a2)
          subst this
          rw [if_pos a1]; decide
    · rw [if_neg a1] at h1
      by_cases a2 : y < x
      · rw [if_pos a2] at h1; exact absurd h1 (by decide)
      · rw [if_neg a2] at h1
        have : x = y := UInt8.le_antisymm (UInt8.not_lt.1 a2) (UInt8.not_lt.1 a1)
        subst this
        by_cases a3 : x < z
        · rw [if_pos a3]; decide
        · rw [if_neg a3] at h2 ⊢
          by_cases a4 : z < x
          · rw [if_pos a4] at h2; exact absurd h2 (by decide)
          · rw [if_neg a4] at h2 ⊢
            exact cmp_trans l r s h1 h2
end Mur
namespace Mur
open Go Go.RowKit Wk
open Go.Lib (compareBytes)
theorem less_cmp : ∀ l r : List UInt8, Op.bytesLess l r = decide (compareBytes l r < 0)
  | [], [] => rfl
  | [], _ :: _ => rfl
  | _ :: _, [] => rfl
  | x :: l, y :: r => by
    unfold compareBytes Op.bytesLess
    by_cases h1 : x < y
    · rw [if_pos h1, decide_eq_true h1]
      rfl
    · rw [if_neg h1, decide_eq_false h1]
      by_cases h2 : y < x
      · have h3 : (x == y) = false := by
          rw [beq_eq_false_iff_ne]
          rintro rfl
          exact UInt8.lt_irrefl x h2
        rw [if_pos h2, h3]
        rfl
      · have : x = y := UInt8.le_antisymm (UInt8.not_lt.1 h2) (UInt8.not_lt.1 h1)
        rw [if_neg h2, this, less_cmp l r]
        simp
theorem strlss {P : Program} {w : World} {a : Act} {o : Oper} (t ty : TypeId) (x y : Operand) (ho : o.op = .binOp .lss t x y ty) (l r : List UInt8) (hx : a.eval x = .string (str l)) (hy : a.eval y = .string (str r)) : (execOp a.eval o).run P w = .ok (.value (.bool (decide (compareBytes l r < 0)))) w := by
  have hg : (eqGuard .lss t x y (.string (str l)) (.string (str r))).run P w = .ok () w := rfl
  unfold execOp
  simp only [ho, hx, hy]
  simp only [binOp_string_lss, Sem.run_bind, Sem.run_pure, hg, Result.andThen_ok, str_toList, less_cmp]
end Mur
namespace Wk
open Go Go.RowKit
def WF (r : Option Nat) : Fence := { Fence.wide with round := r }
structure Keep (F : List Nat) (w w' : World) : Prop where
  size : w.heap.size ≤ w'.heap.size
  block : ∀ k, k ∈ F → w'.heap[k]? = w.heap[k]?
theorem Keep.refl (F : List Nat) (w : World) : Keep F w w := ⟨Nat.le_refl _, fun _ _ => rfl⟩
theorem Keep.trans {F : List Nat} {a b c : World} (h : Keep F a b) (k : Keep F b c) : Keep F a c := ⟨Nat.le_trans h.size k.size, fun i hi => (k.block i hi).trans (h.block i hi)⟩
theorem Keep.of {F S : List Nat} {w w' : World} (h : Chg S w w') (hl : ∀ k, k ∈ F → k < w.heap.size) (ho : ∀ k, k ∈ F → Off k S) : Keep F w w' := ⟨h.size, fun k hk => h.block k (hl k hk) (ho k hk)⟩
theorem Keep.less {F G : List Nat} {w w' : World} (h : Keep F w w') (hs : ∀ k, k ∈ G → k ∈ F) : Keep G w w' := ⟨h.size, fun k hk => h.block k (hs k hk)⟩
theorem Keep.hp {F : List Nat} {w w' : World} (h : Keep F w w') {k : Nat} {o : Obj} (hk : w.heap[k]? = some o) (hm : k ∈ F) : w'.heap[k]? = some o := (h.block k hm).trans hk
theorem Keep.cell {F : List Nat} {w w' : World} (h : Keep F w w') {g o : Nat} {v : Value} (hc : w.cell? ⟨g, o, none⟩ = some v) (hm : g ∈ F) : w'.cell? ⟨g, o, none⟩ = some v :=
  (World.cell?_of_block (w := w) (a := ⟨g, o, none⟩) (h.block g hm)).trans hc
theorem Keep.range {F : List Nat} {w w' : World} (h : Keep F w w') {g o : Nat} {cs : List Value} (hr : w.rangeAt g o cs) (hm : g ∈ F) : w'.rangeAt g o cs := fun j v hv => h.cell (hr j v hv) hm
def Seq {α : Type} (P : Program) (gf : Nat) (lb : Array Value) (encs : α → Array Value) (xs : List α) (F : List Nat) (w : World) : Prop :=
  (∀ k, k ∈ F → k < w.heap.size) ∧
  ∀ (l : Nat) (J : List α → World → Prop) (W : World), Keep F w W →
    (∀ pre A A', J pre A → Chg [] A A' → J pre A') →
    (∀ pre x post A, xs = pre ++ x :: post → J pre A → YieldAt Fence.wide 0 P l (encs x) A fun e A' => e = .returned (.bool true) ∧ J (pre ++ [x]) A' ∧ Keep F A A') →
    J [] W →
    Calls P gf (#[.func (.yield l) #[] #[]] ++ lb) W fun e W' => (∃ v, e = .returned v) ∧ J xs W'
theorem Seq.chg {α : Type} {P : Program} {gf : Nat} {lb : Array Value} {encs : α → Array Value} {xs : List α} {F S : List Nat} {w w' : World} (h : Seq P gf lb encs xs F w) (c : Chg S w w') (ho : ∀ k, k ∈ F → Off k S) : Seq P gf lb encs xs F w' :=
  ⟨fun k hk => Nat.lt_of_lt_of_le (h.1 k hk) c.size, fun l J W hW => h.2 l J W ((Keep.of c h.1 ho).trans hW)⟩
theorem chg_put (w : World) (l : Nat) (o : Obj) : Chg [l] w (w.putObj l o) := ⟨rfl, rfl, rfl, by simp, fun k _ hk => World.putObj_heap_other hk.1⟩
theorem off_of_not {k : Nat} {S : List Nat} (h : k ∉ S) : Off k S := by
  induction S with
  | nil => trivial
  | cons s S ih => exact ⟨fun e => h (by simp [e]), ih fun hk => h (by simp [hk])⟩
def roundEnd (I : World → Prop) (F : List Nat) (A : World) : Exit → Act → World → Prop
  | .normal, _, A' => ∃ S, Chg S A A' ∧ (∀ s, s ∈ S → s < A.heap.size → ∃ o : Obj, A.heap[s]? = some o ∧ o.isCells = true) ∧ (∀ k, k ∈ F → Off k S) ∧ I A'
  | _, _, _ => False
theorem range {P : Program} {g : Operand} {ps : Array Tmp} {assign body : Code} {Q : Exit → Act → World → Prop} {a : Act} {w : World} {α : Type} {gf : Nat} {lb : Array Value} {encs : α → Array Value} {xs : List α} {F : List Nat}
    (hseq : Seq P gf lb encs xs F w) (hg : a.eval g = .func (.func gf) #[] lb) (eg : ∀ args w, (callFunc gf args).run P w = .ok (.enter gf args) w) (hps : ∀ x, (encs x).size = ps.size)
    (I : List α → World → Prop) (hI0 : ∀ pre A A', I pre A → Chg [] A A' → I pre A')
    (hI1 : ∀ pre A A' r o, I pre A → w.heap.size ≤ r → A.heap[r]? = some o → o.isCells = false → Chg [r] A A' → I pre A') (h0 : I [] w)
    (hround : ∀ l pre x post A, xs = pre ++ x :: post → I pre A → w.heap.size ≤ l → l < A.heap.size → (∃ r, A.heap[l]? = some (.loop r)) →
      assign.wpIn (WF (some l)) 0 P (Exit.then (fun a₁ A₁ => Chg [] A A₁ ∧ ∀ A₂, Chg [l] A₁ A₂ → body.wpIn (WF (some l)) 0 P (roundEnd (I (pre ++ [x])) F A₂) a₁ A₂) (fun _ _ _ => False))
        { tmps := (ps.zip (encs x)).foldl (fun t (p, v) => t.setIfInBounds p v) a.tmps, defers := [] } A)
    (hdone : ∀ D W, I xs W → w.heap.size ≤ D → W.heap[D]? = some (.deferred (some [])) → Q .normal { a with defers := { target := .collected D, args := #[] } :: a.defers } W) :
    (Code.rangeFunc g ps assign body).wp P Q a w := by
  refine (wpIn_wide (n := 0)).1 (wpIn_rangeFunc ?_)
  intro fn _
  obtain ⟨rec, hrec⟩ : ∃ rec : LoopState → Option Code → Loop, rec = fun st pe => { state := st, pending := pe, fn, tmps := a.tmps, params := ps, assign, body, defers := w.heap.size } := ⟨_, rfl⟩
  obtain ⟨W1, hW1⟩ : ∃ W1, (w.alloc (.deferred (some []))).alloc (.loop (rec .ready none)) = W1 := ⟨_, rfl⟩
  have hL1 : W1.heap[w.heap.size + 1]? = some (.loop (rec .ready none)) := by
    rw [← hW1]; have := World.alloc_heap_new (w.alloc (.deferred (some []))) (.loop (rec .ready none)); rwa [World.size_alloc] at this
  have hK1 : W1.heap[w.heap.size]? = some (.deferred (some [])) := by
    rw [← hW1]; exact (Below.heap_alloc _ _ _ (by simp)).trans (World.alloc_heap_new w _)
  have hC1 : Chg [] w W1 := by rw [← hW1]; exact (Chg.alloc w _).trans (Chg.alloc _ _)
  refine ⟨w.heap.size + 1, [{ target := .collected w.heap.size, args := #[] }], W1, { target := .fn (.func gf) lb, args := #[.func (.yield (w.heap.size + 1)) #[] #[]] }, W1, gf,
    #[.func (.yield (w.heap.size + 1)) #[] #[]] ++ lb, W1, ?_, ?_, fun _ _ => trivial, ?_, (fun h => by cases h), ?_⟩
  · rw [← hW1, hrec]; exact run_enterLoop_outer _ _ _ _ _
  · simp only [resolve, hg]
    simp [go_sem]
  · simp [invoke, go_sem, eg]
  · refine callsIn_wide.2 ((hseq.2 (w.heap.size + 1) (fun pre W => I pre W ∧ W.heap[w.heap.size + 1]? = some (.loop (rec .ready none)) ∧ W.heap[w.heap.size]? = some (.deferred (some []))) W1 (Keep.of hC1 hseq.1 fun _ _ => trivial)
      (fun pre A A' h c => ⟨hI0 pre A A' h.1 c, c.hp h.2.1 trivial, c.hp h.2.2 trivial⟩) ?_ ⟨hI0 _ _ _ h0 hC1, hL1, hK1⟩).mono ?_)
    · rintro pre x post A hx ⟨hi, hl, hk⟩
      have hlt : w.heap.size + 1 < A.heap.size := (Array.getElem?_eq_some_iff.1 hl).1
      have hy := run_yield (P := P) (args := encs x) hl (by rw [hrec]; exact hps x)
      rw [hrec] at hy
      refine ⟨fn, _, assign, body, hy, roundIn_of_wpIn (F := Fence.wide) trivial ?_⟩
      refine wpIn_mono (hround (w.heap.size + 1) pre x post A hx hi (by omega) hlt ⟨_, hl⟩) ?_
      intro e a₁ A₁ hq
      cases e with
      | normal =>
        obtain ⟨hc1, hbody⟩ := hq
        have hl1 := hc1.hp hl trivial
        have hk1 := hc1.hp hk trivial
        have hsz1 := hc1.size
        refine ⟨_, run_beginRound hl1 (by rw [hrec]), ?_⟩
        have hc2 := chg_put A₁ (w.heap.size + 1) (.loop { rec .ready none with state := .busy })
        have hl2 : (A₁.putObj (w.heap.size + 1) (.loop { rec .ready none with state := .busy })).heap[w.heap.size + 1]? = some (.loop { rec .ready none with state := .busy }) := World.putObj_heap_same (by omega)
        have hk2 := hc2.hp hk1 ⟨by omega, trivial⟩
        have hsz2 := hc2.size
        refine wpIn_mono (hbody _ hc2) ?_
        intro e a₃ A₃ hq
        cases e with
        | normal =>
          obtain ⟨S, hS, hcells, hF, hI⟩ := hq
          have hnot : ∀ (k : Nat) (o : Obj), (A₁.putObj (w.heap.size + 1) (.loop { rec .ready none with state := .busy })).heap[k]? = some o → o.isCells = false → Off k S := fun k o ho hoc => off_of_not fun hm => by
            obtain ⟨o', ho', hc'⟩ := hcells k hm (Array.getElem?_eq_some_iff.1 ho).1
            rw [ho] at ho'
            cases ho'
            rw [hoc] at hc'
            cases hc'
          have hl3 := hS.hp hl2 (hnot _ _ hl2 rfl)
          have hk3 := hS.hp hk2 (hnot _ _ hk2 rfl)
          have hlt3 : w.heap.size + 1 < A₃.heap.size := (Array.getElem?_eq_some_iff.1 hl3).1
          have hlt2 : w.heap.size + 1 < (A₁.putObj (w.heap.size + 1) (.loop { rec .ready none with state := .busy })).heap.size := (Array.getElem?_eq_some_iff.1 hl2).1
          have hend := run_endRound (P := P) none hl3
          have hc4 := chg_put A₃ (w.heap.size + 1) (.loop (rec .ready none))
          refine ⟨_, A₃.putObj (w.heap.size + 1) (.loop (rec .ready none)), ?_, rfl, ⟨hI1 _ _ _ _ _ hI (by omega) hl3 rfl hc4, World.putObj_heap_same hlt3, hc4.hp hk3 ⟨by omega, trivial⟩⟩, ?_⟩
          · rw [hend, hrec]; rfl
          · have hlt' : ∀ k, k ∈ F → k < w.heap.size := hseq.1
            refine (Keep.of hc1 (fun k hk => ?_) fun _ _ => trivial).trans ((Keep.of hc2 (fun k hk => ?_) fun k hk => ⟨?_, trivial⟩).trans ((Keep.of hS (fun k hk => ?_) hF).trans (Keep.of hc4 (fun k hk => ?_) fun k hk => ⟨?_, trivial⟩)))
            all_goals (have := hlt' k hk; first | omega | exact Nat.lt_trans (by omega) hlt2 | exact Nat.lt_trans (by omega) hlt3)
        | _ => exact hq.elim
      | _ => exact hq.elim
    · rintro e W2 ⟨⟨v, rfl⟩, hi, hl, hk⟩
      have hlt : w.heap.size + 1 < W2.heap.size := (Array.getElem?_eq_some_iff.1 hl).1
      have hc := chg_put W2 (w.heap.size + 1) (.loop { rec .ready none with state := .exhausted })
      have hend := run_endLoop (P := P) hl (by rw [hrec]; simp)
      have hpn : (rec .ready none).pending = none := by rw [hrec]
      refine ⟨none, W2.putObj (w.heap.size + 1) (.loop { rec .ready none with state := .exhausted }), hend.trans (congrArg (fun z => Result.ok z _) hpn), ?_⟩
      exact hdone _ _ (hI1 _ _ _ _ _ hi (by omega) hl rfl hc) (Nat.le_refl _) (hc.hp hk ⟨by omega, trivial⟩)
theorem calls_of_wpM {P : Program} {f : FuncId} {fn : Func} {c : Code} {args : Array Value} {w : World} {R : Ending → World → Prop} (hf : P.funcs[f]? = some fn) (hb : fn.body = some c)
    (h : c.wp P (bodyPostM Fence.wide 0 P fn R) { tmps := args ++ Array.replicate (fn.ntmps - args.size) undef, defers := [] } w) : Calls P f args w R :=
  (callsIn_wide (n := 0)).1 (callsIn_of_wp_marks hf hb trivial (wpIn_wide.2 h))
theorem retM {P : Program} {fn : Func} {R : Ending → World → Prop} {a : Act} {w : World} (D : Nat) (hd : a.defers = [{ target := .collected D, args := #[] }]) (hK : w.heap[D]? = some (.deferred (some [])))
    (h : ∀ w', Chg [D] w w' → ∃ v, (results fn a.tmps).run P w' = .ok v w' ∧ R (.returned v) w') : bodyPostM Fence.wide 0 P fn R .ret a w := by
  show LeavesInM Fence.wide 0 P fn a.tmps R a.defers .returning w
  rw [hd]
  exact ⟨by simp, .inl ⟨_, _, rfl, run_takeDeferred hK, h _ (chg_put _ _ _)⟩⟩
theorem retM0 {P : Program} {fn : Func} {R : Ending → World → Prop} {a : Act} {w : World} (v : Value) (hd : a.defers = []) (hr : (results fn a.tmps).run P w = .ok v w) (h : R (.returned v) w) : bodyPostM Fence.wide 0 P fn R .ret a w := by
  show LeavesInM Fence.wide 0 P fn a.tmps R a.defers .returning w
  rw [hd]
  exact ⟨v, hr, h⟩
def noPanic (Q : Exit → Act → World → Prop) : Exit → Act → World → Prop
  | .panic _, _, _ => False
  | e, a, w => Q e a w
theorem noP {P : Program} {c : Code} {Q : Exit → Act → World → Prop} {a : Act} {w : World} (h : c.wp P (noPanic Q) a w) : c.wp P Q a w := wp_mono h fun e a w hq => by
  cases e with
  | panic _ => exact hq.elim
  | _ => exact hq
theorem npR {Q : Exit → Act → World → Prop} {a : Act} {w : World} (h : Q .ret a w) : noPanic Q .ret a w := h
structure FromI (r : Option Nat) (P : Program) (ops : Array Oper) (Q : Exit → Act → World → Prop) (i : Nat) (a : Act) (w : World) : Prop where
  out : wpOpsIn (WF r) 0 P ops Q ((List.range ops.size).drop i) a w
def noDefer (o : Op) : Bool := match o with
  | .defer _ => false
  | _ => true
theorem semAt_any {o : Oper} (h : noDefer o.op = true) (r : Option Nat) (ρ : Operand → Value) : Oper.semAt r ρ o = execOp ρ o := by
  cases r with
  | none => rfl
  | some l => exact Oper.semAt_some l ρ o fun c e => by rw [e] at h; cases h
section
variable {r : Option Nat} {P : Program} {ops : Array Oper} {Q : Exit → Act → World → Prop} {a : Act} {w w1 : World} {o : Oper}
theorem regI {id : Nat} (h : FromI r P ops Q 0 a w) : (Code.region id ops false).wpIn (WF r) 0 P Q a w := wpIn_region h.out
theorem regW {id : Nat} (h : FromI none P ops Q 0 a w) : (Code.region id ops false).wp P Q a w := (wpIn_wide (n := 0)).1 (wpIn_region h.out)
theorem iEnd (i : Nat) (hi : (ops.size == i) = true) (h : Q .normal a w) : FromI r P ops Q i a w := by
  refine ⟨?_⟩
  rw [List.drop_of_length_le (by simp only [List.length_range]; exact Nat.le_of_eq (by simpa using hi))]
  exact h
theorem iStep {i : Nat} (hi : ops[i]? = some o) (h : wpOpIn (WF r) 0 P ops Q i (FromI r P ops Q (i + 1)) a w) : FromI r P ops Q i a w := by
  have hlt : i < ops.size := (Array.getElem?_eq_some_iff.1 hi).1
  refine ⟨?_⟩
  rw [List.drop_eq_getElem_cons (by simpa using hlt), List.getElem_range, wpOpsIn_cons]
  exact wpOpIn_mono (fun _ _ h => h.out) h
theorem iOp {i : Nat} {x : Result Next} (hi : ops[i]? = some o) (hn : noDefer o.op = true) (hw : Region.wanted o (yielded ops a.tmps) = true) (hrun : (execOp a.eval o).run P w = x) (h : o.uponIn (WF r) 0 P a (FromI r P ops Q (i + 1)) Q x) : FromI r P ops Q i a w := by
  refine iStep hi ?_
  unfold wpOpIn
  simp only [hi]
  rw [if_pos hw]
  refine ⟨fun _ _ => trivial, ?_⟩
  rw [semAt_any hn, hrun]
  exact h
theorem iVal (i : Nat) (d : Option Tmp) (v : Value) (hi : ops[i]? = some o) (hd : o.dst = d) (hn : noDefer o.op = true) (hw : Region.wanted o (yielded ops a.tmps) = true) (hrun : (execOp a.eval o).run P w = .ok (.value v) w1)
    (h : FromI r P ops Q (i + 1) (a.put d v) w1) : FromI r P ops Q i a w := by
  subst hd
  exact iOp hi hn hw hrun h
theorem iPure (i : Nat) (d : Option Tmp) (v : Value) (hi : ops[i]? = some o) (hd : o.dst = d) (hn : noDefer o.op = true) (hw : Region.wanted o (yielded ops a.tmps) = true) (hrun : (execOp a.eval o).run P w = .ok (.value v) w)
    (h : FromI r P ops Q (i + 1) (a.put d v) w) : FromI r P ops Q i a w := iVal i d v hi hd hn hw hrun h
theorem iEx (i : Nat) (d : Option Tmp) (F : Value → World → Prop) (hi : ops[i]? = some o) (hd : o.dst = d) (hn : noDefer o.op = true) (hw : Region.wanted o (yielded ops a.tmps) = true) (hrun : ∃ v w1, (execOp a.eval o).run P w = .ok (.value v) w1 ∧ F v w1)
    (h : ∀ v w1, F v w1 → FromI r P ops Q (i + 1) (a.put d v) w1) : FromI r P ops Q i a w := by
  obtain ⟨v, w1, h1, h2⟩ := hrun
  exact iVal i d v hi hd hn hw h1 (h v w1 h2)
theorem iExS (i : Nat) (d : Option Tmp) (F : World → Prop) (hi : ops[i]? = some o) (hd : o.dst = d) (hn : noDefer o.op = true) (hw : Region.wanted o (yielded ops a.tmps) = true) (hrun : ∃ w1, (execOp a.eval o).run P w = .ok .skip w1 ∧ F w1)
    (h : ∀ w1, F w1 → FromI r P ops Q (i + 1) (a.put d undef) w1) : FromI r P ops Q i a w := by
  obtain ⟨w1, h1, h2⟩ := hrun
  subst hd
  exact iOp hi hn hw h1 (h w1 h2)
theorem calls_wf {f : FuncId} {args : Array Value} {R : Ending → World → Prop} (h : Calls P f args w R) : CallsIn (WF r) 0 P f args w R := callsIn_wide.2 h
theorem iCall (i : Nat) (d : Option Tmp) (f : FuncId) (xs : List Operand) (ts : Array TypeId) (vals : List Value) (hi : ops[i]? = some o) (hd : o.dst = d) (hn : noDefer o.op = true) (hw : Region.wanted o (yielded ops a.tmps) = true)
    (ho : o.op = .call { callee := .value (.func f), args := xs.toArray, argTypes := ts }) (hv : xs.map a.eval = vals) (hrun : (callFunc f vals.toArray).run P w = .ok (.enter f vals.toArray) w)
    (hc : Calls P f vals.toArray w fun e w' => ∃ v, e = .returned v ∧ FromI r P ops Q (i + 1) (a.put d v) w') : FromI r P ops Q i a w := by
  subst hd
  refine iOp hi hn hw (x := .ok (.enter f vals.toArray) w) ?_ ⟨(fun h => by cases h), ?_⟩
  · obtain ⟨dst, op, ty, pos, after, guard⟩ := o
    simp only at ho
    subst ho
    rw [execOp_call_go, List.map_toArray, hv, show #[] ++ vals.toArray ++ #[] = vals.toArray by simp, hrun]
  · refine calls_wf (hc.mono ?_)
    rintro e w' ⟨v, rfl, h1⟩
    exact h1
end
section
variable {P : Program} {a : Act} {w : World} {o : Oper}
theorem run_callv (c : Operand) (f : FuncId) (lb : Array Value) (xs : List Operand) (ts : Array TypeId) (vals : List Value) (ho : o.op = .call { callee := .value c, args := xs.toArray, argTypes := ts }) (hc : a.eval c = .func (.func f) #[] lb) (hv : xs.map a.eval = vals)
    (hrun : (callFunc f (vals.toArray ++ lb)).run P w = .ok (.enter f (vals.toArray ++ lb)) w) : (execOp a.eval o).run P w = .ok (.enter f (vals.toArray ++ lb)) w := by
  obtain ⟨dst, op, ty, pos, after, guard⟩ := o
  simp only at ho
  subst ho
  unfold execOp
  simp only [resolve, hc]
  simp [go_sem, invoke, hv, hrun]
theorem run_callyield (c : Operand) (l : Nat) (xs : List Operand) (ts : Array TypeId) (vals : List Value) (ho : o.op = .call { callee := .value c, args := xs.toArray, argTypes := ts }) (hc : a.eval c = .func (.yield l) #[] #[]) (hv : xs.map a.eval = vals) {x : Result Next}
    (hrun : (Instr.yield l vals.toArray).run P w = x) : (execOp a.eval o).run P w = x := by
  obtain ⟨dst, op, ty, pos, after, guard⟩ := o
  simp only at ho
  subst ho
  unfold execOp
  simp only [resolve, hc]
  simp [go_sem, invoke, hv, hrun]
end
section
variable {r : Option Nat} {P : Program} {ops : Array Oper} {Q : Exit → Act → World → Prop} {a : Act} {w w1 : World} {o : Oper} {S : World → Prop}
theorem iYield (i : Nat) (d : Option Tmp) (c : Operand) (l : Nat) (xs : List Operand) (ts : Array TypeId) (vals : List Value) (hi : ops[i]? = some o) (hd : o.dst = d) (hw : Region.wanted o (yielded ops a.tmps) = true)
    (ho : o.op = .call { callee := .value c, args := xs.toArray, argTypes := ts }) (hc : a.eval c = .func (.yield l) #[] #[]) (hv : xs.map a.eval = vals) {R : Ending → World → Prop} (hy : YieldAt Fence.wide 0 P l vals.toArray w R)
    (h : ∀ e w', R e w' → ∃ v, e = .returned v ∧ FromI r P ops Q (i + 1) (a.put d v) w') : FromI r P ops Q i a w := by
  subst hd
  obtain ⟨fn, tmps, assign, body, hy1, hy2⟩ := hy
  refine iOp hi (by rw [ho]; rfl) hw (run_callyield c l xs ts vals ho hc hv hy1) ⟨(fun h => by cases h), ?_⟩
  have hy3 : RoundIn (WF r) 0 P l fn tmps assign body w R := hy2
  refine hy3.mono ?_
  intro e w' he
  obtain ⟨v, rfl, h1⟩ := h e w' he
  exact h1
theorem rCallV (i : Nat) (d : Option Tmp) (c : Operand) (f : FuncId) (lb : Array Value) (xs : List Operand) (ts : Array TypeId) (vals : List Value) (hi : ops[i]? = some o) (hd : o.dst = d) (hw : Region.wanted o (yielded ops a.tmps) = true)
    (ho : o.op = .call { callee := .value c, args := xs.toArray, argTypes := ts }) (hc : a.eval c = .func (.func f) #[] lb) (hv : xs.map a.eval = vals) (hrun : (callFunc f (vals.toArray ++ lb)).run P w = .ok (.enter f (vals.toArray ++ lb)) w)
    (hq : Calls P f (vals.toArray ++ lb) w fun e w' => ∃ v, e = .returned v ∧ From P ops Q (i + 1) (a.put d v) w') : From P ops Q i a w := by
  subst hd
  refine from_step hi ?_
  unfold wpOp
  simp only [hi]
  rw [if_pos hw]
  refine .inl ?_
  unfold Oper.wp
  rw [run_callv c f lb xs ts vals ho hc hv hrun, Oper.upon_enter]
  refine hq.mono ?_
  rintro e w' ⟨v, rfl, h1⟩
  exact h1
theorem oCallV {i : Nat} {K : Act → World → Prop} (d : Option Tmp) (c : Operand) (f : FuncId) (lb : Array Value) (xs : List Operand) (ts : Array TypeId) (vals : List Value) (hi : ops[i]? = some o) (hd : o.dst = d) (hw : Region.wanted o (yielded ops a.tmps) = true)
    (ho : o.op = .call { callee := .value c, args := xs.toArray, argTypes := ts }) (hc : a.eval c = .func (.func f) #[] lb) (hv : xs.map a.eval = vals) (hrun : (callFunc f (vals.toArray ++ lb)).run P w = .ok (.enter f (vals.toArray ++ lb)) w)
    (hq : Calls P f (vals.toArray ++ lb) w fun e w' => ∃ v, e = .returned v ∧ K (a.put d v) w') : At P ops Q i K a w := by
  subst hd
  refine ⟨?_⟩
  unfold wpOp
  simp only [hi]
  rw [if_pos hw]
  refine .inl ?_
  unfold Oper.wp
  rw [run_callv c f lb xs ts vals ho hc hv hrun, Oper.upon_enter]
  refine hq.mono ?_
  rintro e w' ⟨v, rfl, h1⟩
  exact h1
theorem ngN (h : Q .normal a w) : Exit.noGoto Q .normal a w := h
theorem ngR (h : Q .ret a w) : Exit.noGoto Q .ret a w := h
theorem roundN {I : World → Prop} {F : List Nat} {A : World} (S : List Nat) (hS : Chg S A w) (hc : ∀ s, s ∈ S → s < A.heap.size → ∃ o : Obj, A.heap[s]? = some o ∧ o.isCells = true) (hF : ∀ k, k ∈ F → Off k S) (hI : I w) : roundEnd I F A .normal a w := ⟨S, hS, hc, hF, hI⟩
end
end Wk
namespace Mur
open Go Go.RowKit Wk Go.Lib
structure Att where
  k : List UInt8
  r : List UInt8
  t : List UInt8
  n : Int
  hk : k.length = 32
  hr : r.length = 32
  ht : t.length = 32
  hn : (Lit.int .i64 n).wf = true
def Att.C (x : Att) : List Value := attC x.k x.r x.n x.t
def Att.raw (x : Att) : List UInt8 := rawL x.k x.r x.n x.t
theorem Att.C_len (x : Att) : x.C.length = 97 := attC_length x.hk x.hr x.ht
theorem Att.C_one (x : Att) : ∀ v ∈ x.C, v.oneCell' = true := attC_one
theorem Att.eq_iff (x y : Att) : x = y ↔ x.k = y.k ∧ x.r = y.r ∧ x.n = y.n ∧ x.t = y.t := by
  cases x
  cases y
  simp only [Att.mk.injEq]
  constructor
  · rintro ⟨h1, h2, h3, h4⟩
    exact ⟨h1, h2, h4, h3⟩
  · rintro ⟨h1, h2, h3, h4⟩
    exact ⟨h1, h2, h4, h3⟩
theorem Att.raw_inj (x y : Att) : x.raw = y.raw ↔ x = y := (rawL_inj x.hk x.hr y.hk y.hr x.hn y.hn).trans (Att.eq_iff x y).symm
def rowA (L : List Att) : List Value := (L.map Att.C).flatten
theorem rowA_cons (x : Att) (L : List Att) : rowA (x :: L) = x.C ++ rowA L := by simp [rowA]
theorem rowA_one1 (x : Att) : rowA [x] = x.C := by simp [rowA]
theorem rowA_append (L M : List Att) : rowA (L ++ M) = rowA L ++ rowA M := by simp [rowA]
theorem rowA_len : ∀ L : List Att, (rowA L).length = L.length * 97
  | [] => rfl
  | x :: L => by rw [rowA_cons, List.length_append, rowA_len L, x.C_len, List.length_cons]; omega
theorem rowA_one (L : List Att) : ∀ v ∈ rowA L, v.oneCell' = true := by
  intro v hv
  simp only [rowA, List.mem_flatten, List.mem_map] at hv
  obtain ⟨l, ⟨x, _, rfl⟩, hv⟩ := hv
  exact x.C_one v hv
theorem rowA_take (L : List Att) (i : Nat) : rowA (L.take i) = (rowA L).take (i * 97) := by
  induction L generalizing i with
  | nil => simp [rowA]
  | cons x L ih =>
    cases i with
    | zero => simp [rowA]
    | succ i =>
      have h1 : x.C.take ((i + 1) * 97) = x.C := List.take_of_length_le (by rw [x.C_len]; omega)
      rw [List.take_succ_cons, rowA_cons, rowA_cons, ih, List.take_append, x.C_len, show (i + 1) * 97 - 97 = i * 97 by omega, h1]
theorem rowA_drop (L : List Att) (i : Nat) : rowA (L.drop i) = (rowA L).drop (i * 97) := by
  induction L generalizing i with
  | nil => simp [rowA]
  | cons x L ih =>
    cases i with
    | zero => simp
    | succ i =>
      have h1 : x.C.drop ((i + 1) * 97) = [] := List.drop_of_length_le (by rw [x.C_len]; omega)
      rw [List.drop_succ_cons, rowA_cons, ih, List.drop_append, x.C_len, show (i + 1) * 97 - 97 = i * 97 by omega, h1, List.nil_append]
theorem range_cut {w : World} {g off : Nat} {cs : List Value} (h : w.rangeAt g off cs) (k : Nat) (sub : List Value) (e : (cs.drop k).take sub.length = sub) : w.rangeAt g (off + k) sub := fun j v hv => by
  have hj := (List.getElem?_eq_some_iff.1 hv).1
  rw [← e, List.getElem?_take, if_pos (by omega), List.getElem?_drop] at hv
  rw [Nat.add_assoc]
  exact h (k + j) v hv
structure SlA (w : World) (A : Option Addr) (n : Nat) (L : List Att) : Prop where
  len : L.length = n
  sl : Sl w A n 97 (rowA L)
section
variable {w w' : World} {A : Option Addr} {n : Nat} {L : List Att}
theorem SlA.nil (w : World) (A : Option Addr) : SlA w A 0 [] := ⟨rfl, Sl.nil w A 97⟩
theorem SlA.chg {S : List Nat} (h : SlA w A n L) (c : Chg S w w') (ho : ∀ g off, A = some ⟨g, off, none⟩ → g < w.heap.size → Off g S) : SlA w' A n L := ⟨h.len, h.sl.chg c ho⟩
theorem SlA.chgp {S : List Nat} (h : SlA w A n L) (c : Chg S w w') (ho : ∀ g off, A = some ⟨g, off, none⟩ → 0 < n → g < w.heap.size → Off g S) : SlA w' A n L := by
  rcases Nat.eq_zero_or_pos n with h0 | h0
  · have := List.eq_nil_of_length_eq_zero (h.len.trans h0)
    subst this
    subst h0
    exact SlA.nil _ _
  · exact h.chg c fun g off e hl => ho g off e h0 hl
theorem SlA.keep {F : List Nat} (h : SlA w A n L) (c : Keep F w w') (ho : ∀ g off, A = some ⟨g, off, none⟩ → 0 < n → g ∈ F) : SlA w' A n L := ⟨h.len, h.sl.1, fun hn => by
  have hp : 0 < n := by
    rcases Nat.eq_zero_or_pos n with h0 | h0
    · rw [List.eq_nil_of_length_eq_zero (h.len.trans h0)] at hn
      exact absurd rfl hn
    · exact h0
  obtain ⟨g, off, e, hr⟩ := h.sl.2 hn
  exact ⟨g, off, e, c.range hr (ho g off e hp)⟩⟩
theorem rowA_ne (h : 0 < L.length) : rowA L ≠ [] := fun e => by
  have := rowA_len L
  rw [e] at this
  simp at this
  omega
theorem SlA.ex (h : SlA w A n L) (hn : 0 < n) : ∃ g off, A = some ⟨g, off, none⟩ ∧ w.rangeAt g off (rowA L) := h.sl.2 (rowA_ne (by rw [h.len]; exact hn))
theorem SlA.rng {g off : Nat} (h : SlA w (some ⟨g, off, none⟩) n L) : w.rangeAt g off (rowA L) := fun j v hv => by
  have hp : 0 < n := by
    rcases Nat.eq_zero_or_pos n with h0 | h0
    · rw [List.eq_nil_of_length_eq_zero (h.len.trans h0)] at hv
      cases hv
    · exact h0
  obtain ⟨g', off', e, hr⟩ := h.ex hp
  cases e
  exact hr j v hv
theorem SlA.elem {g off : Nat} (h : SlA w (some ⟨g, off, none⟩) n L) {i : Nat} {x : Att} (hx : L[i]? = some x) : w.rangeAt g (off + i * 97) (attC x.k x.r x.n x.t) := by
  refine range_cut h.rng (i * 97) _ ?_
  obtain ⟨hi, rfl⟩ := List.getElem?_eq_some_iff.1 hx
  have e : L.drop i = L[i] :: L.drop (i + 1) := List.drop_eq_getElem_cons hi
  rw [← rowA_drop, e, rowA_cons]
  show (L[i].C ++ _).take (L[i].C).length = _
  rw [List.take_left]
  rfl
theorem SlA.lt {g off : Nat} (h : SlA w (some ⟨g, off, none⟩) n L) (hn : 0 < n) : g < w.heap.size := by
  have hr := h.rng
  have hl := rowA_len L
  have := h.len
  exact World.block_lt_of_cell? w ⟨g, off + 0, none⟩ (hr 0 _ (List.getElem?_eq_getElem (by omega)))
theorem SlA.key {g off : Nat} (h : SlA w (some ⟨g, off, none⟩) n L) {i : Nat} {x : Att} (hx : L[i]? = some x) : w.rangeAt g (off + i * 97) (b8s x.k) := by
  have := range_cut (h.elem hx) 0 (b8s x.k) (by simp [attC])
  simpa using this
theorem slA_box {g : Nat} {T : TypeId} {fr : Nat × Nat} (x : Att) (h : w.heap[g]? = some (.cells (attC x.k x.r x.n x.t).toArray T fr)) : SlA w (some ⟨g, 0, none⟩) 1 [x] :=
  ⟨rfl, by rw [rowA_one1, x.C_len], fun _ => ⟨g, 0, rfl, by rw [rowA_one1]; exact range_row h⟩⟩
theorem SlA.pre {g off : Nat} (h : SlA w (some ⟨g, off, none⟩) n L) {k : Nat} (hk : k ≤ n) : SlA w (some ⟨g, off, none⟩) k (L.take k) := by
  have hl := h.len
  refine ⟨by rw [List.length_take]; omega, by rw [rowA_len, List.length_take]; omega, fun _ => ⟨g, off, rfl, ?_⟩⟩
  have e : (((rowA L).drop 0).take (rowA (L.take k)).length) = rowA (L.take k) := by
    rw [rowA_take, List.drop_zero, List.length_take, rowA_len, hl, Nat.min_eq_left (by omega)]
  have := range_cut h.rng 0 (rowA (L.take k)) e
  simpa using this
end
structure OwnA (w : World) (base e : Nat) (A : Option Addr) (n c : Nat) (L : List Att) : Prop where
  own : w.ownsRow base e 97 (.slice A n c) n (rowA L)
  nc : n ≤ c
  cm : c ≤ maxLen
  nil : A = none → c = 0
  sl : SlA w A n L
  at_ : ∀ g off, A = some ⟨g, off, none⟩ → off = 0 ∧ base ≤ g ∧ g < w.heap.size
  lt : ∀ k, (Value.slice A n c).ownBlock = some k → base ≤ k ∧ k < w.heap.size
section
variable {w w' : World} {base e n c : Nat} {A : Option Addr} {L : List Att}
theorem ownA (h : w.ownsRow base e 97 (.slice A n c) n (rowA L)) : OwnA w base e A n c L := by
  obtain ⟨A2, c2, e3, h1, h2, h4, h5, h6⟩ := own_sl h
  injection e3 with e3 _ e4
  subst e3 e4
  have hl : L.length = n := by
    have := h.1
    rw [rowA_len] at this
    omega
  refine ⟨h, h1, h2, h4, ⟨hl, h5⟩, fun g off eq => ⟨?_, h6 g off eq⟩, World.ownsRow.lt h⟩
  rcases h.2 with ⟨e0, _⟩ | ⟨g', cap, cur, e0, _⟩
  · injection e0 with e1
    rw [eq] at e1
    cases e1
  · injection e0 with e1
    rw [eq] at e1
    injection e1 with e1
    injection e1
theorem ownA_nil (w : World) (base e : Nat) : OwnA w base e none 0 0 [] := ownA ⟨rfl, .inl ⟨rfl, rfl⟩⟩
theorem ownA_empty {g : Nat} (h : w.heap[g]? = some (.cells #[] e (0, 0))) (hb : base ≤ g) : OwnA w base e (some ⟨g, 0, none⟩) 0 0 [] :=
  ownA ⟨rfl, .inr ⟨g, 0, #[], rfl, hb, h, Nat.le_refl _, by unfold maxLen; omega, rfl, rfl⟩⟩
theorem OwnA.chg {S : List Nat} (h : OwnA w base e A n c L) (ch : Chg S w w') (ho : ∀ g, (Value.slice A n c).ownBlock = some g → base ≤ g → g < w.heap.size → Off g S) : OwnA w' base e A n c L := ownA (own_chg h.own ch ho)
theorem OwnA.ex (h : OwnA w base e A n c L) (hn : 0 < n) : ∃ g, A = some ⟨g, 0, none⟩ ∧ base ≤ g ∧ g < w.heap.size := by
  obtain ⟨g, rfl, _⟩ := own_some h.own hn
  exact ⟨g, rfl, (h.at_ g 0 rfl).2⟩
theorem OwnA.cur (h : OwnA w base e A n c L) : (A = none ∧ n = 0 ∧ c = 0) ∨ ∃ g cur, A = some ⟨g, 0, none⟩ ∧ base ≤ g ∧ w.heap[g]? = some (.cells cur e (0, 0)) ∧ cur.size = c * 97 ∧ cur.toList.take (n * 97) = rowA L := by
  rcases h.own.2 with ⟨e0, h2⟩ | ⟨g, cap, cur, e0, hb, hg, hnc, hcm, hcs, ht⟩
  · injection e0 with e1 e2 e3
    exact .inl ⟨e1, h2, e3⟩
  · injection e0 with e1 e2 e3
    subst e3
    exact .inr ⟨g, cur, e1, hb, hg, hcs, ht⟩
theorem OwnA.of {g : Nat} {cur : Array Value} (hb : base ≤ g) (hg : w.heap[g]? = some (.cells cur e (0, 0))) (hnc : n ≤ c) (hcm : c ≤ maxLen) (hcs : cur.size = c * 97) (ht : cur.toList.take (n * 97) = rowA L) (hl : L.length = n) : OwnA w base e (some ⟨g, 0, none⟩) n c L :=
  ownA ⟨by rw [rowA_len, hl], .inr ⟨g, c, cur, rfl, hb, hg, hnc, hcm, hcs, ht⟩⟩
theorem OwnA.lower {base' : Nat} (h : OwnA w base e A n c L) (hb : base' ≤ base) : OwnA w base' e A n c L := ownA (own_le h.own hb)
theorem OwnA.rebase {base' : Nat} (h : OwnA w base e A n c L) (hb : ∀ g, (Value.slice A n c).ownBlock = some g → base' ≤ g) : OwnA w base' e A n c L := by
  rcases h.cur with ⟨rfl, rfl, rfl⟩ | ⟨g, cur, rfl, hb0, hg, hcs, ht⟩
  · have := List.eq_nil_of_length_eq_zero h.sl.len
    subst this
    exact ownA_nil _ _ _
  · exact OwnA.of (hb g rfl) hg h.nc h.cm hcs ht h.sl.len
theorem OwnA.cut (h : OwnA w base e A n c L) {k : Nat} (hk : k ≤ n) : OwnA w base e A k c (L.take k) := by
  rcases h.cur with ⟨rfl, rfl, rfl⟩ | ⟨g, cur, rfl, hb, hg, hcs, ht⟩
  · obtain rfl : k = 0 := by omega
    simpa using ownA_nil w base e
  · have hl := h.sl.len
    refine OwnA.of hb hg (Nat.le_trans hk h.nc) h.cm hcs ?_ (by rw [List.length_take]; omega)
    rw [rowA_take, ← ht, List.take_take, Nat.min_eq_left (by omega)]
end
section
variable {P : Program} {w : World} {a : Act} {o : Oper}
theorem appendA (s x : Operand) (t e : TypeId) (ho : o.op = .call { callee := .builtin .append, args := #[s, x], argTypes := #[t, t] }) (ht : P.underlying t = some (.slice e)) (hinfo : (P.info? e).map (fun i => (i.zero, i.size, i.bytes)) = some (some (.agg (attC z32 z32 0 z32).toArray), 97, 104))
    (base : Nat) (A0 : Option Addr) (n c0 : Nat) (xs : List Att) (A : Option Addr) (m c : Nat) (ys : List Att) (hs : a.eval s = .slice A0 n c0) (hx : a.eval x = .slice A m c) (HO : OwnA w base e A0 n c0 xs) (HR : SlA w A m ys) (hA : A = none → c = 0)
    (hbase : base ≤ w.heap.size) (hl : n + m ≤ 1000000) (k : Nat) (hk : n + m = k) (zs : List Att) (hz : xs ++ ys = zs) :
    ∃ v1 w1, (execOp a.eval o).run P w = .ok (.value v1) w1 ∧ ∃ A1 c1, v1 = .slice A1 k c1 ∧ OwnA w1 base e A1 k c1 zs ∧ Chg (blk (.slice A0 n c0)) w w1 ∧ (∀ q, (Value.slice A1 k c1).ownBlock = some q → (Value.slice A0 n c0).ownBlock = some q ∨ q = w.heap.size) := by
  subst hk hz
  obtain ⟨v1, w1, h1, h2, h3, h4⟩ := append_run (P := P) s x t e ho ht (.agg (attC z32 z32 0 z32).toArray) 97 104 hinfo (attC_size rfl rfl rfl) (by omega) base (.slice A0 n c0) n (rowA xs) A m c (rowA ys) hs hx HO.own HR.sl hA (rowA_one ys) hbase (by unfold maxLen; omega) (by omega)
  rw [← rowA_append] at h2
  obtain ⟨A1, c1, rfl, _⟩ := own_sl h2
  refine ⟨_, w1, h1, A1, c1, rfl, ownA h2, h3, fun q hq => ?_⟩
  rcases h4 with h4 | h4
  · exact .inl (h4 ▸ hq)
  · rw [h4] at hq
    exact .inr (Option.some.inj hq).symm
theorem run_toK (t : TypeId) (x z : Operand) (ho : o.op = .slice t x none (some z) none) (e : TypeId) (ht : P.underlying t = some (.slice e)) (sz : Nat) (hsz : (P.info? e).map (·.size) = some sz) (A : Option Addr) (n c h : Nat)
    (hA : A = none ∨ ∃ g off, A = some ⟨g, off, none⟩) (hx : a.eval x = .slice A n c) (hz : a.eval z = .int .i64 ((h : Nat) : Int)) (hh : h ≤ c) : (execOp a.eval o).run P w = .ok (.value (.slice A h c)) w := by
  obtain ⟨i, hi, hs⟩ := Option.map_eq_some_iff.1 hsz
  have key : (Instr.sliceAt t (.slice A n c) none (some (.int .i64 (h : Int))) none).run P w = .ok (.slice A h c) w := by
    simp [Instr.sliceAt, Instr.slice, run_underlying ht, Instr.sliceBounds, Go.sizeOf, typeInfo, hi, run_sliceBound w .i64 (h : Int) c _ (by omega) (by omega)]
    intro _
    rcases hA with rfl | ⟨g, off, rfl⟩
    · rfl
    · simp [Addr.add_mid]
  unfold execOp
  simp only [ho, hx, hz, Option.map_some, Option.map_none, Sem.run_bind, key, Result.andThen_ok, Sem.run_pure]
theorem run_fromK (t : TypeId) (x y : Operand) (ho : o.op = .slice t x (some y) none none) (e : TypeId) (ht : P.underlying t = some (.slice e)) (sz : Nat) (hsz : (P.info? e).map (·.size) = some sz) (A : Option Addr) (n c l : Nat)
    (hx : a.eval x = .slice A n c) (hy : a.eval y = .int .i64 ((l : Nat) : Int)) (hl : l ≤ n) (m : Nat) (hm : n - l = m) : (execOp a.eval o).run P w = .ok (.value (.slice (if c = l then A else A.map (·.add (l * sz))) m (c - l))) w := by
  subst hm
  obtain ⟨i, hi, hs⟩ := Option.map_eq_some_iff.1 hsz
  have key : (Instr.sliceAt t (.slice A n c) (some (.int .i64 (l : Int))) none none).run P w = .ok (.slice (if c = l then A else A.map (·.add (l * sz))) (n - l) (c - l)) w := by
    simp [Instr.sliceAt, Instr.slice, run_underlying ht, Instr.sliceBounds, Go.sizeOf, typeInfo, hi, hs, run_sliceBound w .i64 (l : Int) n _ (by omega) (by omega)]
  unfold execOp
  simp only [ho, hx, hy, Option.map_some, Option.map_none, Sem.run_bind, key, Result.andThen_ok, Sem.run_pure]
theorem run_fromS (t : TypeId) (x y : Operand) (ho : o.op = .slice t x (some y) none none) (e : TypeId) (ht : P.underlying t = some (.slice e)) (sz : Nat) (hsz : (P.info? e).map (·.size) = some sz) (g off n c l : Nat)
    (hx : a.eval x = .slice (some ⟨g, off, none⟩) n c) (hy : a.eval y = .int .i64 ((l : Nat) : Int)) (hl : l ≤ n) (hlc : l < c) (m : Nat) (hm : n - l = m) : (execOp a.eval o).run P w = .ok (.value (.slice (some ⟨g, off + l * sz, none⟩) m (c - l))) w := by
  rw [run_fromK t x y ho e ht sz hsz _ n c l hx hy hl m hm, if_neg (by omega)]
  simp [Addr.add_mid]
theorem copyK (d s : Operand) (dT sT : TypeId) (ho : o.op = .call { callee := .builtin .copy, args := #[d, s], argTypes := #[dT, sT] }) (e : TypeId) (hu : P.underlying dT = some (.slice e)) (sz : Nat) (hsz : (P.info? e).map (·.size) = some sz)
    (g off D c : Nat) (hd : a.eval d = .slice (some ⟨g, off, none⟩) D c) (g' off' n c2 : Nat) (hs : a.eval s = .slice (some ⟨g', off', none⟩) n c2) (k : Nat) (hk : Nat.min n D = k) (t : TypeId) (cs : Array Value) (r : List Value) (hg : w.heap[g]? = some (.cells cs t (0, 0))) (hb : w.rangeAt g' off' r) (hr : r.length = k * sz) (h1 : ∀ v ∈ r, v.oneCell' = true) (hf : off + r.length ≤ cs.size)
    (R : List Value) (hR : splice cs.toList off r = R) :
    ∃ v w', (execOp a.eval o).run P w = .ok (.value v) w' ∧ v = .int .i64 ((k : Nat) : Int) ∧ w'.heap[g]? = some (.cells R.toArray t (0, 0)) ∧ Chg [g] w w' := by
  subst hR hk
  have hl := run_loadCells_list (P := P) w ⟨g', off', none⟩ r (fun j v hv => by rw [Addr.add_mid]; exact hb j v hv)
  have hst := run_storeCells_at P g off t r 0 cs w hg (by simpa using hf) h1
  obtain ⟨i, hi, hs1⟩ := Option.map_eq_some_iff.1 hsz
  have hrun : (Builtin.copy_ #[dT, sT] o.type #[.slice (some ⟨g, off, none⟩) D c, .slice (some ⟨g', off', none⟩) n c2]).run P w = .ok (goInt (Nat.min n D)) (w.setRow g (splice cs.toList off r).toArray) := by
    rw [Nat.add_zero] at hst
    have hl' : (loadCells (⟨g', off', none⟩ : Addr) (Nat.min n D * sz)).run P w = .ok r.toArray w := by rw [← hr]; exact hl
    simp [Builtin.copy_, run_underlying hu, Builtin.lenOf, Builtin.firstCells, Go.sizeOf, typeInfo, hi, hs1, hl', hst, splice]
  refine ⟨_, w.setRow g (splice cs.toList off r).toArray, ?_, rfl, setRow_heap w g _ _ t _ hg, ⟨rfl, rfl, rfl, by simp [World.setRow], fun k hk ho => setRow_other _ _ _ _ (fun h => ho.1 h)⟩⟩
  unfold execOp
  simp only [ho, resolve, invoke, builtin, Sem.run_bind, Sem.run_pure, Result.andThen_ok, List.map_toArray, List.map_cons, List.map_nil, hs, hd, hrun, goInt]
end
theorem splice_at {cur p Y Z T r : List Value} {off : Nat} (h : cur = p ++ (Y ++ (Z ++ T))) (hp : p.length = off) (hr : r.length = Y.length) : splice cur off r = p ++ (r ++ (Z ++ T)) := by
  subst h
  exact splice_mid hp hr.symm
theorem cut4 (cur : List Value) (a b c : Nat) (h : a + b + c ≤ cur.length) : ∃ p Y Z T, cur = p ++ (Y ++ (Z ++ T)) ∧ p = cur.take a ∧ p.length = a ∧ Y.length = b ∧ Z.length = c := by
  refine ⟨cur.take a, (cur.drop a).take b, ((cur.drop a).drop b).take c, ((cur.drop a).drop b).drop c, ?_, rfl, ?_, ?_, ?_⟩
  · rw [List.take_append_drop, List.take_append_drop, List.take_append_drop]
  · rw [List.length_take]; omega
  · rw [List.length_take, List.length_drop]; omega
  · rw [List.length_take, List.length_drop, List.length_drop]; omega
theorem ins_back {cur X R : List Value} {p : Nat} (hX : X.length = 97) (hl : p + 97 + R.length ≤ cur.length) : splice (splice cur (p + 97) R) p X = cur.take p ++ (X ++ (R ++ cur.drop (p + 97 + R.length))) := by
  obtain ⟨q, Y, Z, T, rfl, hq, hp, hY, hZ⟩ := cut4 cur p 97 R.length hl
  have e1 : splice (q ++ (Y ++ (Z ++ T))) (p + 97) R = q ++ (Y ++ (R ++ T)) := by
    have := splice_mid (A := q ++ Y) (B := Z) (C := T) (vs := R) (off := p + 97) (by rw [List.length_append, hp, hY]) hZ
    simpa using this
  rw [e1, splice_mid hp (hY.trans hX.symm), ← hq]
  congr 3
  rw [← List.append_assoc, ← List.append_assoc, List.drop_left' (by simp only [List.length_append, hp, hY, hZ])]
theorem ins_fore {cur X R : List Value} {p : Nat} (hX : X.length = 97) (hl : p + 97 + R.length ≤ cur.length) : splice (splice cur p X) (p + 97) R = cur.take p ++ (X ++ (R ++ cur.drop (p + 97 + R.length))) := by
  obtain ⟨q, Y, Z, T, rfl, hq, hp, hY, hZ⟩ := cut4 cur p 97 R.length hl
  have e1 : splice (q ++ (Y ++ (Z ++ T))) p X = q ++ (X ++ (Z ++ T)) := splice_mid hp (hY.trans hX.symm)
  have e2 : splice (q ++ (X ++ (Z ++ T))) (p + 97) R = q ++ (X ++ (R ++ T)) := by
    have := splice_mid (A := q ++ X) (B := Z) (C := T) (vs := R) (off := p + 97) (by rw [List.length_append, hp, hX]) hZ
    simpa using this
  rw [e1, e2, ← hq]
  congr 3
  rw [← List.append_assoc, ← List.append_assoc, List.drop_left' (by simp only [List.length_append, hp, hY, hZ])]
theorem ins_row {cur : List Value} {L : List Att} {i n : Nat} (x : Att) (hi : i ≤ n) (hl : L.length = n) (hp : cur.take (i * 97) = rowA (L.take i)) : (cur.take (i * 97) ++ (x.C ++ (rowA (L.drop i) ++ cur.drop (i * 97 + 97 + (rowA (L.drop i)).length)))).take ((n + 1) * 97) = rowA (L.take i ++ x :: L.drop i) := by
  rw [hp, rowA_append, rowA_cons, ← List.append_assoc, ← List.append_assoc]
  rw [List.take_left' (by simp only [List.length_append, rowA_len, x.C_len, List.length_take, List.length_drop]; omega), List.append_assoc]
end Mur
namespace Mur
open Go Go.RowKit Go.Lib
instance attDec : DecidableEq Att := fun x y => decidable_of_iff (x.raw = y.raw) (Att.raw_inj x y)
def Att.lt (x y : Att) : Prop := compareBytes x.raw y.raw < 0
instance attLt (x y : Att) : Decidable (x.lt y) := by unfold Att.lt; infer_instance
theorem Att.lt_irrefl (x : Att) : ¬ x.lt x := by unfold Att.lt; rw [cmp_self]; omega
theorem Att.lt_trans {x y z : Att} (h : x.lt y) (k : y.lt z) : x.lt z := cmp_trans _ _ _ h k
theorem Att.lt_asymm {x y : Att} (h : x.lt y) : ¬ y.lt x := fun k => x.lt_irrefl (Att.lt_trans h k)
theorem Att.lt_or (x y : Att) : x.lt y ∨ x = y ∨ y.lt x := by
  unfold Att.lt
  have h1 := cmp_flip x.raw y.raw
  have h2 := cmp_zero x.raw y.raw
  rcases Int.lt_trichotomy (compareBytes x.raw y.raw) 0 with h | h | h
  · exact .inl h
  · exact .inr (.inl ((Att.raw_inj x y).1 (h2 h)))
  · exact .inr (.inr (by omega))
def cmpA (y x : Att) : Int := if y.lt x then -1 else if y = x then 0 else 1
theorem cmpA_neg (y x : Att) : cmpA y x < 0 ↔ y.lt x := by
  unfold cmpA
  split
  · simp [*]
  · rename_i h
    refine ⟨fun q => ?_, fun q => absurd q h⟩
    split at q <;> omega
theorem cmpA_zero (y x : Att) : cmpA y x = 0 ↔ y = x := by
  unfold cmpA
  split
  · rename_i h
    simp
    rintro rfl
    exact y.lt_irrefl h
  · split <;> simp [*]
def Sorted (L : List Att) : Prop := L.Pairwise Att.lt
theorem Sorted.lt {L : List Att} (h : Sorted L) {i j : Nat} {x y : Att} (hi : L[i]? = some x) (hj : L[j]? = some y) (hij : i < j) : x.lt y := by
  obtain ⟨h1, rfl⟩ := List.getElem?_eq_some_iff.1 hi
  obtain ⟨h2, rfl⟩ := List.getElem?_eq_some_iff.1 hj
  exact List.pairwise_iff_getElem.1 h i j h1 h2 hij
theorem Sorted.take {L : List Att} (h : Sorted L) (k : Nat) : Sorted (L.take k) := List.Pairwise.sublist (List.take_sublist k L) h
theorem Sorted.filter {L : List Att} (h : Sorted L) (p : Att → Bool) : Sorted (L.filter p) := List.Pairwise.sublist List.filter_sublist h
def pos (x : Att) (L : List Att) : Nat := (L.takeWhile fun y => decide (y.lt x)).length
theorem pos_le (x : Att) (L : List Att) : pos x L ≤ L.length := (List.takeWhile_sublist _).length_le
theorem pos_lt {x : Att} : ∀ {L : List Att}, Sorted L → ∀ {i : Nat} {y : Att}, L[i]? = some y → (y.lt x ↔ i < pos x L)
  | [], _, _, _, hy => by simp at hy
  | z :: L, h, i, y, hy => by
    have h1 := List.pairwise_cons.1 h
    unfold pos
    rw [List.takeWhile_cons]
    by_cases hz : z.lt x
    · rw [decide_eq_true hz]
      simp only [if_true, List.length_cons]
      cases i with
      | zero =>
        simp at hy
        subst hy
        simp [hz]
      | succ i =>
        have := pos_lt h1.2 (i := i) (y := y) (x := x) (by simpa using hy)
        unfold pos at this
        rw [this]
        omega
    · rw [decide_eq_false hz]
      simp
      cases i with
      | zero =>
        simp at hy
        subst hy
        exact hz
      | succ i =>
        intro hyx
        have hm : y ∈ L := List.mem_of_getElem? (i := i) (by simpa using hy)
        exact hz (Att.lt_trans (h1.1 y hm) hyx)
theorem pos_mem {x : Att} {L : List Att} (h : Sorted L) : x ∈ L ↔ L[pos x L]? = some x := by
  constructor
  · intro hm
    obtain ⟨i, hi, rfl⟩ := List.getElem_of_mem hm
    have hx : L[i]? = some L[i] := List.getElem?_eq_getElem hi
    have h1 := pos_lt h hx (x := L[i])
    have h2 := L[i].lt_irrefl
    have h3 : ¬ pos L[i] L < i := fun hp => by
      have hu : L[pos L[i] L]? = some L[pos L[i] L] := List.getElem?_eq_getElem (by omega)
      have h4 := h.lt hu hx hp
      have h5 := (pos_lt h hu (x := L[i])).1 h4
      omega
    rw [show pos L[i] L = i by
      have : ¬ i < pos L[i] L := fun q => h2 (h1.2 q)
      omega]
    exact hx
  · exact fun hx => List.mem_of_getElem? hx
def ins (x : Att) (L : List Att) : List Att := L.take (pos x L) ++ x :: L.drop (pos x L)
theorem ins_length (x : Att) (L : List Att) : (ins x L).length = L.length + 1 := by
  have := pos_le x L
  simp only [ins, List.length_append, List.length_cons, List.length_take, List.length_drop]
  omega
theorem mem_ins {x y : Att} {L : List Att} : y ∈ ins x L ↔ y = x ∨ y ∈ L := by
  have h := List.take_append_drop (pos x L) L
  constructor
  · intro hy
    rcases List.mem_append.1 hy with h1 | h1
    · exact .inr (List.mem_of_mem_take h1)
    · rcases List.mem_cons.1 h1 with h1 | h1
      · exact .inl h1
      · exact .inr (List.mem_of_mem_drop h1)
  · rintro (rfl | hy)
    · exact List.mem_append_right _ (List.mem_cons_self)
    · rw [← h] at hy
      rcases List.mem_append.1 hy with h1 | h1
      · exact List.mem_append_left _ h1
      · exact List.mem_append_right _ (List.mem_cons_of_mem _ h1)
theorem ins_sorted {x : Att} {L : List Att} (h : Sorted L) (hx : x ∉ L) : Sorted (ins x L) := by
  have h0 : Sorted (L.take (pos x L) ++ L.drop (pos x L)) := by rw [List.take_append_drop]; exact h
  obtain ⟨h1, h2, h3⟩ := List.pairwise_append.1 h0
  have ha : ∀ a, a ∈ L.take (pos x L) → a.lt x := fun a ha => by
    obtain ⟨i, hi, rfl⟩ := List.getElem_of_mem ha
    rw [List.length_take] at hi
    rw [List.getElem_take]
    exact (pos_lt h (List.getElem?_eq_getElem (by omega))).2 (by omega)
  have hb : ∀ b, b ∈ L.drop (pos x L) → x.lt b := fun b hb => by
    have hm := List.mem_of_mem_drop hb
    obtain ⟨i, hi, rfl⟩ := List.getElem_of_mem hb
    rw [List.length_drop] at hi
    rw [List.getElem_drop] at hm ⊢
    have h4 := pos_lt h (x := x) (List.getElem?_eq_getElem (i := pos x L + i) (by omega))
    rcases x.lt_or (L[pos x L + i]'(by omega)) with h5 | h5 | h5
    · exact h5
    · rw [← h5] at hm
      exact absurd hm hx
    · exact absurd (h4.1 h5) (by omega)
  exact List.pairwise_append.2 ⟨h1, List.pairwise_cons.2 ⟨hb, h2⟩, fun a h4 b h5 => by
    rcases List.mem_cons.1 h5 with rfl | h5
    · exact ha a h4
    · exact h3 a h4 b h5⟩
def addS (x : Att) (L : List Att) : List Att × Int := if may x.n then (if x ∈ L then (L, 7) else if pos x L = 200 then (L, 8) else ((ins x L).take 200, 0)) else (L, 2)
theorem addS_may {x : Att} {L : List Att} (h : ¬ may x.n) : addS x L = (L, 2) := by unfold addS; rw [if_neg h]
theorem addS_twice {x : Att} {L : List Att} (h : may x.n) (k : x ∈ L) : addS x L = (L, 7) := by unfold addS; rw [if_pos h, if_pos k]
theorem addS_full {x : Att} {L : List Att} (h : may x.n) (k : x ∉ L) (f : pos x L = 200) : addS x L = (L, 8) := by unfold addS; rw [if_pos h, if_neg k, if_pos f]
theorem addS_ok {x : Att} {L : List Att} (h : may x.n) (k : x ∉ L) (f : pos x L ≠ 200) : addS x L = ((ins x L).take 200, 0) := by unfold addS; rw [if_pos h, if_neg k, if_neg f]
structure Canon (X : Att → Prop) (L : List Att) : Prop where
  srt : Sorted L
  len : L.length ≤ 200
  sub : ∀ y, y ∈ L → X y ∧ may y.n
  out : ∀ y, X y → may y.n → y ∉ L → L.length = 200 ∧ ∀ z, z ∈ L → z.lt y
theorem Canon.nil : Canon (fun _ => False) [] := ⟨List.Pairwise.nil, by simp, fun y h => by simp at h, fun y h => h.elim⟩
theorem Canon.iff {X Y : Att → Prop} {L : List Att} (h : Canon X L) (e : ∀ y, X y ↔ Y y) : Canon Y L := ⟨h.srt, h.len, fun y hy => ⟨(e y).1 (h.sub y hy).1, (h.sub y hy).2⟩, fun y hy => h.out y ((e y).2 hy)⟩
theorem Canon.add {X : Att → Prop} {L : List Att} (h : Canon X L) (x : Att) : Canon (fun y => y = x ∨ X y) (addS x L).1 := by
  have hlen := h.len
  have hple := pos_le x L
  by_cases hm : may x.n
  · by_cases hx : x ∈ L
    · rw [addS_twice hm hx]
      exact ⟨h.srt, h.len, fun y hy => ⟨.inr (h.sub y hy).1, (h.sub y hy).2⟩, fun y hy hy2 hn => by
        rcases hy with rfl | hy
        · exact absurd hx hn
        · exact h.out y hy hy2 hn⟩
    · by_cases hf : pos x L = 200
      · rw [addS_full hm hx hf]
        exact ⟨h.srt, h.len, fun y hy => ⟨.inr (h.sub y hy).1, (h.sub y hy).2⟩, fun y hy hy2 hn => by
          rcases hy with rfl | hy
          · refine ⟨by show L.length = 200; omega, fun z hz => ?_⟩
            obtain ⟨i, hi, rfl⟩ := List.getElem_of_mem hz
            have hi' : i < L.length := hi
            exact (pos_lt h.srt (List.getElem?_eq_getElem hi)).2 (by omega)
          · exact h.out y hy hy2 hn⟩
      · rw [addS_ok hm hx hf]
        have hs := ins_sorted h.srt hx
        have hil := ins_length x L
        refine ⟨hs.take 200, by rw [List.length_take]; omega, fun y hy => ?_, fun y hy hy2 hn => ?_⟩
        · rcases mem_ins.1 (List.mem_of_mem_take hy) with rfl | h1
          · exact ⟨.inl rfl, hm⟩
          · exact ⟨.inr (h.sub y h1).1, (h.sub y h1).2⟩
        · by_cases hi : y ∈ ins x L
          · obtain ⟨j, hj, rfl⟩ := List.getElem_of_mem hi
            have hj2 : ¬ j < 200 := fun q => hn (by
              have : ((ins x L).take 200)[j]? = some (ins x L)[j] := by rw [List.getElem?_take, if_pos q]; exact List.getElem?_eq_getElem hj
              exact List.mem_of_getElem? this)
            refine ⟨by rw [List.length_take]; omega, fun z hz => ?_⟩
            obtain ⟨i, hi2, rfl⟩ := List.getElem_of_mem hz
            rw [List.length_take] at hi2
            rw [List.getElem_take]
            exact hs.lt (List.getElem?_eq_getElem (by omega)) (List.getElem?_eq_getElem hj) (by omega)
          · have hyx : y ≠ x := fun e => hi (mem_ins.2 (.inl e))
            have hyl : y ∉ L := fun e => hi (mem_ins.2 (.inr e))
            obtain ⟨h1, h2⟩ := h.out y (hy.resolve_left hyx) hy2 hyl
            refine ⟨by rw [List.length_take]; omega, fun z hz => ?_⟩
            rcases mem_ins.1 (List.mem_of_mem_take hz) with rfl | h3
            · have hu : L[pos z L]? = some (L[pos z L]'(by omega)) := List.getElem?_eq_getElem (by omega)
              have hum : (L[pos z L]'(by omega)) ∈ L := List.getElem_mem _
              have h4 := pos_lt h.srt hu (x := z)
              rcases z.lt_or (L[pos z L]'(by omega)) with h5 | h5 | h5
              · exact Att.lt_trans h5 (h2 _ hum)
              · rw [← h5] at hum
                exact absurd hum hx
              · exact absurd (h4.1 h5) (by omega)
            · exact h2 z h3
  · rw [addS_may hm]
    exact ⟨h.srt, h.len, fun y hy => ⟨.inr (h.sub y hy).1, (h.sub y hy).2⟩, fun y hy hy2 hn => by
      rcases hy with rfl | hy
      · exact absurd hy2 hm
      · exact h.out y hy hy2 hn⟩
theorem Sorted.nodup {L : List Att} (h : Sorted L) : L.Nodup := List.Pairwise.imp (fun {a b} hab e => by subst e; exact a.lt_irrefl hab) h
theorem Sorted.ext : ∀ {L M : List Att}, Sorted L → Sorted M → (∀ y, y ∈ L ↔ y ∈ M) → L = M
  | [], [], _, _, _ => rfl
  | [], y :: M, _, _, e => by have := (e y).2 (by simp); simp at this
  | x :: L, [], _, _, e => by have := (e x).1 (by simp); simp at this
  | x :: L, y :: M, h, k, e => by
    obtain ⟨h1, h2⟩ := List.pairwise_cons.1 h
    obtain ⟨k1, k2⟩ := List.pairwise_cons.1 k
    have hxy : x = y := by
      rcases List.mem_cons.1 ((e x).1 (by simp)) with h3 | h3
      · exact h3
      · rcases List.mem_cons.1 ((e y).2 (by simp)) with h4 | h4
        · exact h4.symm
        · exact absurd (k1 x h3) (Att.lt_asymm (h1 y h4))
    subst hxy
    rw [Sorted.ext h2 k2 fun z => ?_]
    constructor
    · intro hz
      rcases List.mem_cons.1 ((e z).1 (List.mem_cons_of_mem _ hz)) with rfl | h3
      · exact absurd (h1 z hz) z.lt_irrefl
      · exact h3
    · intro hz
      rcases List.mem_cons.1 ((e z).2 (List.mem_cons_of_mem _ hz)) with rfl | h3
      · exact absurd (k1 z hz) z.lt_irrefl
      · exact h3
theorem nodup_le : ∀ {L M : List Att}, L.Nodup → (∀ y, y ∈ L → y ∈ M) → L.length ≤ M.length
  | [], _, _, _ => by simp
  | x :: L, M, h, hs => by
    obtain ⟨h1, h2⟩ := List.nodup_cons.1 h
    have hx : x ∈ M := hs x (by simp)
    have := nodup_le (M := M.erase x) h2 fun y hy => (List.mem_erase_of_ne (fun (e : y = x) => h1 (by rw [← e]; exact hy))).2 (hs y (List.mem_cons_of_mem _ hy))
    rw [List.length_erase_of_mem hx] at this
    have hp : 0 < M.length := List.length_pos_of_mem hx
    simp only [List.length_cons]
    omega
theorem sub_all {L M : List Att} (h : L.Nodup) (hs : ∀ y, y ∈ L → y ∈ M) (hl : M.length ≤ L.length) : ∀ y, y ∈ M → y ∈ L := fun y hy => by
  by_cases hm : y ∈ L
  · exact hm
  · have := nodup_le (L := y :: L) (M := M) (List.nodup_cons.2 ⟨hm, h⟩) fun z hz => by
      rcases List.mem_cons.1 hz with rfl | hz
      · exact hy
      · exact hs z hz
    simp only [List.length_cons] at this
    omega
theorem Canon.uniq {X : Att → Prop} {L M : List Att} (h : Canon X L) (k : Canon X M) : L = M := by
  have key : ∀ {L M : List Att}, Canon X L → Canon X M → ∀ y, y ∈ L → y ∈ M := by
    intro L M h k y hy
    by_cases hm : y ∈ M
    · exact hm
    · obtain ⟨h1, h2⟩ := k.out y (h.sub y hy).1 (h.sub y hy).2 hm
      have hML : ∀ b, b ∈ M → b ∈ L := fun b hb => by
        by_cases hbl : b ∈ L
        · exact hbl
        · have := (h.out b (k.sub b hb).1 (k.sub b hb).2 hbl).2 y hy
          exact absurd (h2 b hb) (Att.lt_asymm this)
      exact sub_all k.srt.nodup hML (by have := h.len; omega) y hy
  exact h.srt.ext k.srt fun y => ⟨key h k y, key k h y⟩
def nib (k : List UInt8) (i : Nat) : UInt8 := if i % 2 = 0 then k.getD (i / 2) 0 >>> 4 else k.getD (i / 2) 0 &&& 15
def under (p k : List UInt8) : Bool := (List.range p.length).all fun i => nib k i == p.getD i 0
def isPre (p : List UInt8) : Bool := p.all (fun x => decide (x ≤ 15)) && decide (p.length ≤ 8)
def belowL (p : List UInt8) (L : List Att) : List Att := if isPre p then L.filter (fun x => under p x.k) else []
theorem belowL_no {p : List UInt8} {L : List Att} (h : isPre p = false) : belowL p L = [] := by unfold belowL; rw [h]; rfl
theorem belowL_ok {p : List UInt8} {L : List Att} (h : isPre p = true) : belowL p L = L.filter (fun x => under p x.k) := by unfold belowL; rw [h]; rfl
theorem under_nil (k : List UInt8) : under [] k = true := rfl
theorem belowL_nil (L : List Att) : belowL [] L = L := by
  rw [belowL_ok (by decide)]
  exact List.filter_eq_self.2 fun x _ => under_nil x.k
theorem under_iff {p k : List UInt8} : under p k = true ↔ ∀ i, i < p.length → nib k i = p.getD i 0 := by
  unfold under
  rw [List.all_eq_true]
  constructor
  · intro h i hi
    have := h i (List.mem_range.2 hi)
    exact beq_iff_eq.1 this
  · intro h i hi
    exact beq_iff_eq.2 (h i (List.mem_range.1 hi))
theorem under_false {p k : List UInt8} {i : Nat} (hi : i < p.length) (h : nib k i ≠ p.getD i 0) : under p k = false := by
  cases hu : under p k
  · rfl
  · exact absurd (under_iff.1 hu i hi) h
theorem pre_len {p : List UInt8} (h : isPre p = true) : p.length ≤ 8 := by
  unfold isPre at h
  simp only [Bool.and_eq_true, decide_eq_true_eq] at h
  exact h.2
end Mur
namespace Mur
open Go Go.RowKit Wk Go.Lib
section
variable {P : Program} {w : World} {a : Act} {o : Oper}
theorem quo_nat (t ty : TypeId) (x y : Operand) (ho : o.op = .binOp .quo t x y ty) (i n : Nat) (hx : a.eval x = .int .i64 ((i : Nat) : Int)) (hy : a.eval y = .int .i64 ((n : Nat) : Int)) (hn : 0 < n) (hi : i ≤ 9223372036854775807) :
    (execOp a.eval o).run P w = .ok (.value (.int .i64 ((i / n : Nat) : Int))) w := by
  have hne : ¬ n = 0 := by omega
  have h1 : Int.tdiv (i : Int) (n : Int) = ((i / n : Nat) : Int) := by
    rw [Int.tdiv_eq_ediv_of_nonneg (by omega)]
    exact_mod_cast rfl
  have hlt : i / n ≤ i := Nat.div_le_self i n
  have h2 : IntKind.i64.wrap ((i / n : Nat) : Int) = ((i / n : Nat) : Int) := IntWalk.i64_in _ ⟨by have := Int.natCast_nonneg (i / n); omega, by have : ((i / n : Nat) : Int) ≤ (i : Int) := Int.ofNat_le.2 hlt; omega⟩
  unfold execOp
  simp only [ho, hx, hy]
  simp only [eqGuard, binOp]
  simp [Op.intDiv, hne, h1]
  first | done | exact_mod_cast h2
theorem bits_and_u8 (a b : UInt8) : bits .and .u8 ((a.toNat : Nat) : Int) ((b.toNat : Nat) : Int) = (((a &&& b).toNat : Nat) : Int) := by
  show IntKind.u8.wrap ((BitVec.ofInt 8 ((a.toNat : Nat) : Int) &&& BitVec.ofInt 8 ((b.toNat : Nat) : Int)).toNat : Int) = _
  rw [BitVec.ofInt_natCast, BitVec.ofInt_natCast, UInt8.toNat, BitVec.ofNat_toNat, BitVec.setWidth_eq, UInt8.toNat, BitVec.ofNat_toNat, BitVec.setWidth_eq]
  show ((((a &&& b).toNat : Nat) : Int)) % 256 = _
  have := (a &&& b).toNat_lt
  omega
theorem and8_15 (t ty : TypeId) (x y : Operand) (ho : o.op = .binOp .and t x y ty) (b : UInt8) (hx : a.eval x = .int .u8 ((b.toNat : Nat) : Int)) (hy : a.eval y = .int .u8 15) : (execOp a.eval o).run P w = .ok (.value (.int .u8 (((b &&& 15).toNat : Nat) : Int))) w := by
  have key : (binOp .and t (.int .u8 ((b.toNat : Nat) : Int)) (.int .u8 15)).run P w = .ok (.int .u8 (bits .and .u8 ((b.toNat : Nat) : Int) (((15 : UInt8).toNat : Nat) : Int))) w := rfl
  have hg : (eqGuard .and t x y (.int .u8 ((b.toNat : Nat) : Int)) (.int .u8 15)).run P w = .ok () w := rfl
  rw [bits_and_u8] at key
  unfold execOp
  simp only [ho, hx, hy]
  simp only [Sem.run_bind, Sem.run_pure, hg, Result.andThen_ok, key]
theorem shr8_4 (t ty : TypeId) (x y : Operand) (ho : o.op = .binOp .shr t x y ty) (b : UInt8) (hx : a.eval x = .int .u8 ((b.toNat : Nat) : Int)) (hy : a.eval y = .int .u64 4) : (execOp a.eval o).run P w = .ok (.value (.int .u8 (((b >>> 4).toNat : Nat) : Int))) w := by
  have h0 : ((b >>> 4).toNat : Nat) = b.toNat / 16 := by
    rw [UInt8.toNat_shiftRight]
    show b.toNat >>> 4 = _
    rw [Nat.shiftRight_eq_div_pow]
  have key : (binOp .shr t (.int .u8 ((b.toNat : Nat) : Int)) (.int .u64 4)).run P w = .ok (.int .u8 (((b >>> 4).toNat : Nat) : Int)) w := by
    have : (Op.shift .shr .u8 ((b.toNat : Nat) : Int) .u64 4).run P w = .ok (.int .u8 (((b >>> 4).toNat : Nat) : Int)) w := by
      unfold Op.shift
      rw [if_neg (by omega)]
      have hb : IntKind.u8.bits = 8 := rfl
      have h1 : min ((4 : Int).toNat) IntKind.u8.bits = 4 := by rw [hb]; rfl
      have h2 : Int.fdiv ((b.toNat : Nat) : Int) (2 ^ 4) = ((b.toNat / 16 : Nat) : Int) := by
        rw [Int.fdiv_eq_ediv_of_nonneg _ (by decide)]
        exact_mod_cast rfl
      simp only [h1, h2, Sem.run_pure, h0]
    exact this
  have hg : (eqGuard .shr t x y (.int .u8 ((b.toNat : Nat) : Int)) (.int .u64 4)).run P w = .ok () w := rfl
  unfold execOp
  simp only [ho, hx, hy]
  simp only [Sem.run_bind, Sem.run_pure, hg, Result.andThen_ok, key]
theorem growZ (s x : Operand) (t tn e : TypeId) (ho : o.op = .call { callee := .builtin .append, args := #[s, x], argTypes := #[t, tn] }) (ht : P.underlying t = some (.slice e)) (kn : IntKind) (htn : P.underlying tn = some (.int kn))
    (hinfo : (P.info? e).map (fun i => (i.zero, i.size, i.bytes)) = some (some (.agg (attC z32 z32 0 z32).toArray), 97, 104)) (g i c0 k N : Nat) (cur : Array Value) (M : List Att) (hs : a.eval s = .slice (some ⟨g, 0, none⟩) i c0) (hx : a.eval x = .int .i64 ((k : Nat) : Int))
    (hg : w.heap[g]? = some (.cells cur e (0, 0))) (hM : cur.toList.take (i * 97) = rowA M) (hl : M.length = i) (hk : 0 < k) (hc : c0 < i + k) (hb : i + k ≤ 1000000) (hN : i + k = N) :
    ∃ v w1, (execOp a.eval o).run P w = .ok (.value v) w1 ∧ ∃ C cs, v = .slice (some ⟨w.heap.size, 0, none⟩) N C ∧ w1.heap[w.heap.size]? = some (.cells cs e (0, 0)) ∧ cs.toList.take (i * 97) = rowA M ∧ cs.size = C * 97 ∧ N ≤ C ∧ C ≤ maxLen ∧ Chg [] w w1 ∧ w.heap.size < w1.heap.size := by
  subst hN
  obtain ⟨i0, hi, hzz⟩ := Option.map_eq_some_iff.1 hinfo
  simp only [Prod.mk.injEq] at hzz
  obtain ⟨hz0, hz1, hz2⟩ := hzz
  have hold : (Builtin.firstCells i0.size i (.slice (some ⟨g, 0, none⟩) i c0)).run P w.drew = .ok (rowA M).toArray w.drew := by
    rw [hz1]
    refine run_firstCells_some (P := P) w.drew 97 i ⟨g, 0, none⟩ i c0 (rowA M) (by rw [rowA_len, hl]) fun j v hv => ?_
    have hr := range_row (w := w) hg
    rw [Addr.add_mid, Nat.zero_add]
    rw [← hM] at hv
    rw [List.getElem?_take] at hv
    split at hv
    · have := hr j v hv
      rw [Nat.zero_add] at this
      exact this
    · cases hv
  have hrun := run_append_grow_zeros (P := P) w t tn o.type e i0 (.agg (attC z32 z32 0 z32).toArray) .i64 kn ht htn hi hz0 (some ⟨g, 0, none⟩) i c0 (rowA M) hold k hk (by omega) hc (by omega) (by rw [hz2]; omega) (by
    rw [hz2]
    exact growslice_fits (bytes := 104) hc (by omega))
  have hge := grownCap_ge w (i + k) c0 e
  have hcm : grownCap w (i + k) c0 e ≤ maxLen := grownCap_le_maxLen w (i + k) c0 e (by unfold maxLen; omega)
  have hsz : ((Value.agg (attC z32 z32 0 z32).toArray).cells).size = 97 := attC_size rfl rfl rfl
  have hzc : ∀ m, (Builtin.zeroCells (Value.agg (attC z32 z32 0 z32).toArray).cells m).size = m * 97 := fun m => by
    unfold Builtin.zeroCells
    rw [Array.size_map, Array.size_range, hsz]
  obtain ⟨ROW, hROW⟩ : ∃ R : Array Value, R = (rowA M).toArray ++ Builtin.zeroCells (Value.agg (attC z32 z32 0 z32).toArray).cells k ++ Builtin.zeroCells (Value.agg (attC z32 z32 0 z32).toArray).cells (grownCap w (i + k) c0 e - (i + k)) := ⟨_, rfl⟩
  rw [← hROW] at hrun
  refine ⟨_, w.drew.alloc (.cells ROW e), ?_, _, ROW, rfl, heap_alloc_new w.drew _, ?_, ?_, hge, hcm, ⟨rfl, rfl, rfl, by simp, fun q hq _ => Below.heap_alloc w.drew _ q hq⟩, by simp⟩
  · unfold execOp
    simp only [ho, resolve, invoke, builtin, Sem.run_bind, Sem.run_pure, Result.andThen_ok, List.map_toArray, List.map_cons, List.map_nil, hs, hx, hrun]
  · rw [hROW, Array.append_assoc, Array.toList_append]
    exact List.take_left' (by rw [rowA_len, hl])
  · rw [hROW, Array.size_append, Array.size_append, hzc, hzc, List.size_toArray, rowA_len, hl]
    omega
theorem build1 (t e : TypeId) (x : Operand) (ho : o.op = .buildSlice t 1 #[(0, x)]) (ht : P.underlying t = some (.slice e)) (hinfo : (P.info? e).map (fun i => (i.zero, i.size, i.bytes)) = some (some (.agg (attC z32 z32 0 z32).toArray), 97, 104))
    (k r tt : List UInt8) (n : Int) (hk : k.length = 32) (hr : r.length = 32) (htt : tt.length = 32) (hx : a.eval x = .agg (attC k r n tt).toArray) :
    ∃ v w1, (execOp a.eval o).run P w = .ok (.value v) w1 ∧ v = .slice (some ⟨w.heap.size, 0, none⟩) 1 1 ∧ w1.heap[w.heap.size]? = some (.cells (attC k r n tt).toArray e (0, 0)) ∧ Chg [] w w1 ∧ w.heap.size < w1.heap.size := by
  obtain ⟨i0, hi, hzz⟩ := Option.map_eq_some_iff.1 hinfo
  simp only [Prod.mk.injEq] at hzz
  obtain ⟨hz0, hz1, hz2⟩ := hzz
  have hfill : ∀ Z : Array Value, Z.size = 97 → Instr.fill (fun i => some (i * 97, 97)) Z [(0, .agg (attC k r n tt).toArray)] = some (attC k r n tt).toArray := by
    intro Z hZ
    have hl := attC_length (n := n) hk hr htt
    have := fill_part (place := fun i => some (i * 97, 97)) (L := Z.toList) (vs := attC k r n tt) (v := .agg (attC k r n tt).toArray) (i := 0) (off := 0) (size := 97) (rest := []) (R := some (attC k r n tt).toArray) (by simp) rfl hl (by rw [Array.length_toList, hZ]; omega) (by
      have e : splice Z.toList 0 (attC k r n tt) = attC k r n tt := by
        unfold splice
        rw [hl, List.drop_of_length_le (by rw [Array.length_toList, hZ]; omega)]
        simp
      rw [e]
      rfl)
    simpa using this
  have hrun : (Instr.buildSlice t 1 [(0, Value.agg (attC k r n tt).toArray)].toArray).run P w = .ok (.slice (some ⟨w.heap.size, 0, none⟩) 1 1) (w.alloc (.cells (attC k r n tt).toArray e)) := by
    have hf := hfill ((Array.range (1 * 97)).map ((Value.agg (attC z32 z32 0 z32).toArray).cells[· % 97]!)) (by rw [Array.size_map, Array.size_range])
    have hs : (Value.agg (attC z32 z32 0 z32).toArray).cells.size = 97 := attC_size rfl rfl rfl
    unfold Instr.buildSlice
    simp [run_underlying ht, Go.sizeOf, typeInfo, zeroValue, hi, hz0, hz1, hs]
    simp at hf
    rw [hf]
    rfl
  refine ⟨_, _, ?_, rfl, heap_alloc_new w _, Chg.alloc w _, by simp⟩
  unfold execOp
  simp only [ho, List.map_toArray, List.map_cons, List.map_nil, hx]
  simp only [Sem.run_bind, hrun, Result.andThen_ok, Sem.run_pure]
theorem run_ovl {f : FuncId} {fn : Func} {tS tR e : TypeId} (hf : P.funcs[f]? = some fn) (hname : (fn.name == "runtime.NumGoroutine") = false) (hb : fn.body.isNone = true) (hn : Extern.findNext fn = none) (he : Extern.find fn = some (Extern.SlicesOverlaps.overlaps #[tS, tS] #[tR]))
    (ht : P.underlying tS = some (.slice e)) (hinfo : (P.info? e).map (fun i => (i.zero, i.size, i.bytes)) = some (some (.agg (attC z32 z32 0 z32).toArray), 97, 104)) (x y : Operand) (ts : Array TypeId) (ho : o.op = .call { callee := .value (.func f), args := #[x, y], argTypes := ts })
    (q g off la ca lb cb : Nat) (hx : a.eval x = .slice (some ⟨q, 0, none⟩) la ca) (hy : a.eval y = .slice (some ⟨g, off, none⟩) lb cb) (hne : q ≠ g) (tA tB : TypeId) (c1 c2 : Array Value) (hq : w.heap[q]? = some (.cells c1 tA (0, 0))) (hg : w.heap[g]? = some (.cells c2 tB (0, 0))) (h2 : 0 < c2.size) :
    (execOp a.eval o).run P w = .ok (.value (.bool false)) w := by
  obtain ⟨i0, hi, hzz⟩ := Option.map_eq_some_iff.1 hinfo
  simp only [Prod.mk.injEq] at hzz
  obtain ⟨hz0, hz1, hz2⟩ := hzz
  have key := run_overlaps_apart (P := P) w tS tR e ht 97 (fun w => by simp [Go.sizeOf, typeInfo, hi, hz1]) ⟨q, 0, none⟩ ⟨g, off, none⟩ la ca lb cb hne tA tB c1.size c2.size (by simp [World.shape?, hq]) (by simp [World.shape?, hg]) (by omega) (by simp [World.frozen?, hq]) (by simp [World.frozen?, hq])
  exact ext_run f [x, y] ts [.slice (some ⟨q, 0, none⟩) la ca, .slice (some ⟨g, off, none⟩) lb cb] ho (by simp [hx, hy]) (by rw [run_callFunc_extern hf hname hb hn he]; show ((Extern.SlicesOverlaps.overlaps #[tS, tS] #[tR] #[.slice (some ⟨q, 0, none⟩) la ca, .slice (some ⟨g, off, none⟩) lb cb]).run P w).andThen _ = _; rw [key]; rfl)
end
theorem cut_drop {cur : List Value} {L : List Att} {i n : Nat} (h : cur.take (n * 97) = rowA L) : (cur.drop (i * 97)).take (rowA (L.drop i)).length = rowA (L.drop i) := by
  have e : rowA (L.drop i) = (cur.drop (i * 97)).take (n * 97 - i * 97) := by rw [rowA_drop, ← h, List.drop_take]
  have e2 : cur.drop (i * 97) = rowA (L.drop i) ++ (cur.drop (i * 97)).drop (n * 97 - i * 97) := by rw [e, List.take_append_drop]
  rw [e2, List.take_left]
theorem splice_len {cs r : List Value} {off m : Nat} (h : off + r.length ≤ m) (hm : cs.length = m) : (splice cs off r).length = m := by
  unfold splice
  simp only [List.length_append, List.length_take, List.length_drop]
  omega
theorem all15 {l : List UInt8} {n : Nat} (hl : l.length = n) (h : ∀ j, j < n → l.getD j 0 ≤ 15) : (l.all fun x => decide (x ≤ 15)) = true := by
  rw [List.all_eq_true]
  intro x hx
  obtain ⟨j, hj, rfl⟩ := List.getElem_of_mem hx
  have := h j (by omega)
  rw [List.getD_eq_getElem?_getD, List.getElem?_eq_getElem hj] at this
  exact decide_eq_true this
theorem some15 {l : List UInt8} {n i : Nat} (hl : l.length = n) (hi : i < n) (h : 15 < l.getD i 0) : (l.all fun x => decide (x ≤ 15)) = false := by
  cases hq : (l.all fun x => decide (x ≤ 15))
  · rfl
  · rw [List.all_eq_true] at hq
    have h1 : l.getD i 0 = l[i] := by rw [List.getD_eq_getElem?_getD, List.getElem?_eq_getElem (by omega)]; rfl
    have := of_decide_eq_true (hq (l[i]'(by omega)) (List.getElem_mem _))
    rw [h1] at h
    exact absurd h (UInt8.not_lt.2 this)
end Mur
namespace Go.Proofs.YtfhneademopciaaDoor
open Mur (attC z32)
theorem attI : (Tryd.prog.info? 32).map (fun i => (i.zero, i.size, i.bytes)) = some (some (.agg (attC z32 z32 0 z32).toArray), 97, 104) := by kernel_rfl
end Go.Proofs.YtfhneademopciaaDoor
namespace Go.Proofs.YtfhneademopciaaDoor
open Go.RowKit Go.WideShapes Go.ChangeShapes
open Mur (All2 Leaf Att SlA rowA attC b8s)
set_option maxRecDepth 100000
section
variable {H : Type} {enc : TypeId × Value → H} {W : World}
def lsA : List TypeId := (List.replicate 32 5 ++ (List.replicate 32 5 ++ ([3] ++ List.replicate 32 5)))
theorem cAtt : Tryd.prog.cellsOf 32 = lsA.length := by kernel_rfl
theorem leaf_att {cs : List Value} (ha : All2 (Leaf enc Tryd.prog W 0 (fun _ => true) true) lsA cs) : ∃ x : Att, cs = x.C := by
  obtain ⟨c1, c2, e1, h1, ha⟩ := Mur.all2_split ha
  obtain ⟨c3, c4, e2, h2, ha⟩ := Mur.all2_split ha
  obtain ⟨c5, c6, e3, h3, h4⟩ := Mur.all2_split ha
  obtain ⟨k, hk, rfl⟩ := Mur.leaf_u8s Tryd.underlying5 32 _ h1
  obtain ⟨r, hr, rfl⟩ := Mur.leaf_u8s Tryd.underlying5 32 _ h2
  obtain ⟨t, ht, rfl⟩ := Mur.leaf_u8s Tryd.underlying5 32 _ h4
  rcases h3 with _ | ⟨h3, h5⟩
  cases h5
  obtain ⟨n, rfl, hn⟩ := Mur.leaf_int Tryd.underlying3 h3
  refine ⟨⟨k, r, t, n, hk, hr, ht, hn⟩, ?_⟩
  subst e3 e2
  rw [e1]
  rfl
theorem open_atts {v : Value} {d : DataW H} {ps : List MemPlace} {r0 : Reach} {b0 : Nat} (hval : Value.okWide Tryd.prog W r0 b0 22 v) (h : DataW.Trod enc Tryd.prog W 0 (fun _ => true) true 22 v d ps) :
    ∃ A n c L, v = .slice A n c ∧ (n ≤ c ∧ c ≤ 9223372036854775807) ∧ (A = none → c = 0) ∧ SlA W A n L := by
  obtain ⟨A, n, c, rows, rfl, hnc, hcm, hnil, hlen, hrows, hat⟩ := Mur.open_rows 3 lsA Tryd.underlying22 leafs_a cAtt (by decide) (Mur.slice_cells Tryd.underlying22 ⟨_, _, hval⟩) h
  have key : ∀ rows : List (List Value), (∀ r ∈ rows, All2 (Leaf enc Tryd.prog W 0 (fun _ => true) true) lsA r) → ∃ L : List Att, rows = L.map Att.C := by
    intro rows
    induction rows with
    | nil => exact fun _ => ⟨[], rfl⟩
    | cons r rows ih =>
      intro hr
      obtain ⟨L, rfl⟩ := ih fun x hx => hr x (by simp [hx])
      obtain ⟨x, rfl⟩ := leaf_att (hr r (by simp))
      exact ⟨x :: L, rfl⟩
  obtain ⟨L, rfl⟩ := key rows hrows
  have hl : L.length = n := by simpa using hlen
  refine ⟨A, n, c, L, rfl, ⟨hnc, by unfold maxLen at hcm; omega⟩, hnil, hl, by rw [Mur.rowA_len, hl], fun hn => ?_⟩
  have hp : 0 < n := by
    rcases Nat.eq_zero_or_pos n with h0 | h0
    · rw [List.eq_nil_of_length_eq_zero (hl.trans h0)] at hn
      exact absurd rfl hn
    · exact h0
  obtain ⟨g, off, e, hr⟩ := hat hp
  refine ⟨g, off, e, fun j v hv => ?_⟩
  have hj := (List.getElem?_eq_some_iff.1 hv).1
  rw [Mur.rowA_len] at hj
  obtain ⟨x, hx⟩ : ∃ x, L[j / 97]? = some x := ⟨_, List.getElem?_eq_getElem (by omega)⟩
  have h1 := hr (j / 97) x.C (by simp [hx])
  have h2 : x.C[j % 97]? = some v := by
    have e1 : (rowA L)[j]? = ((rowA L).drop (j / 97 * 97))[j % 97]? := by
      rw [List.getElem?_drop]
      congr 1
      omega
    rw [e1, ← Mur.rowA_drop] at hv
    obtain ⟨h3, rfl⟩ := List.getElem?_eq_some_iff.1 hx
    rw [List.drop_eq_getElem_cons h3, Mur.rowA_cons, List.getElem?_append_left (by rw [Att.C_len]; omega)] at hv
    exact hv
  have h4 := h1 (j % 97) v h2
  have e4 : off + j / 97 * lsA.length + j % 97 = off + j := by
    have : lsA.length = 97 := rfl
    rw [this]
    omega
  rw [e4] at h4
  exact h4
end
end Go.Proofs.YtfhneademopciaaDoor
namespace Mur
open Go Go.RowKit Wk
structure SetA (e T lo : Nat) (w : World) (g : Nat) (L : List Att) (A : Option Addr) (n c : Nat) : Prop where
  hp : w.heap[g]? = some (.cells #[.slice A n c] T (0, 0))
  own : OwnA w lo e A n c L
  ne : ∀ q, (Value.slice A n c).ownBlock = some q → q ≠ g
  lo_ : lo ≤ g
  srt : Sorted L
  len : L.length ≤ 200
  ok : ∀ y, y ∈ L → may y.n
def SetF (e T lo : Nat) (w : World) (g : Nat) (L : List Att) (F : List Nat) : Prop := ∃ A n c, SetA e T lo w g L A n c ∧ F = g :: blk (.slice A n c)
section
variable {e T lo : Nat} {w w' : World} {g : Nat} {L : List Att} {F : List Nat} {A : Option Addr} {n c : Nat}
theorem blk_mem {v : Value} {s : Nat} (h : s ∈ blk v) : v.ownBlock = some s := by
  unfold blk at h
  split at h
  · rename_i q hq
    rw [List.mem_singleton.1 h]
    exact hq
  · simp at h
theorem SetF.srt (h : SetF e T lo w g L F) : Sorted L := let ⟨_, _, _, k, _⟩ := h; k.srt
theorem SetF.len (h : SetF e T lo w g L F) : L.length ≤ 200 := let ⟨_, _, _, k, _⟩ := h; k.len
theorem SetF.ok (h : SetF e T lo w g L F) : ∀ y, y ∈ L → may y.n := let ⟨_, _, _, k, _⟩ := h; k.ok
theorem SetF.mem (h : SetF e T lo w g L F) : ∀ s, s ∈ F → lo ≤ s ∧ s < w.heap.size := by
  obtain ⟨A, n, c, k, rfl⟩ := h
  intro s hs
  rcases List.mem_cons.1 hs with rfl | hs
  · exact ⟨k.lo_, (Array.getElem?_eq_some_iff.1 k.hp).1⟩
  · exact k.own.lt s (blk_mem hs)
theorem SetF.self (h : SetF e T lo w g L F) : g ∈ F := by
  obtain ⟨A, n, c, k, rfl⟩ := h
  simp
theorem SetA.chg {S : List Nat} (h : SetA e T lo w g L A n c) (ch : Chg S w w') (ho : ∀ s, s ∈ g :: blk (.slice A n c) → Off s S) : SetA e T lo w' g L A n c :=
  ⟨ch.hp h.hp (ho g (by simp)), h.own.chg ch fun q hq _ _ => ho q (List.mem_cons_of_mem _ (mem_blk hq)), h.ne, h.lo_, h.srt, h.len, h.ok⟩
theorem SetF.chg {S : List Nat} (h : SetF e T lo w g L F) (ch : Chg S w w') (ho : ∀ s, s ∈ F → Off s S) : SetF e T lo w' g L F := by
  obtain ⟨A, n, c, k, rfl⟩ := h
  exact ⟨A, n, c, k.chg ch ho, rfl⟩
theorem SetF.keep (h : SetF e T lo w g L F) (k : Keep F w w') : SetF e T lo w' g L F := by
  obtain ⟨A, n, c, h, rfl⟩ := h
  refine ⟨A, n, c, ⟨k.hp h.hp (by simp), ?_, h.ne, h.lo_, h.srt, h.len, h.ok⟩, rfl⟩
  rcases h.own.cur with ⟨rfl, rfl, rfl⟩ | ⟨q, cur, rfl, hb, hg, hcs, ht⟩
  · have := List.eq_nil_of_length_eq_zero h.own.sl.len
    subst this
    exact ownA_nil _ _ _
  · exact OwnA.of hb (k.hp hg (by simp [blk, Value.ownBlock])) h.own.nc h.own.cm hcs ht h.own.sl.len
theorem SetF.low {lo' : Nat} (h : SetF e T lo w g L F) (hl : lo' ≤ lo) : SetF e T lo' w g L F := by
  obtain ⟨A, n, c, k, rfl⟩ := h
  exact ⟨A, n, c, ⟨k.hp, k.own.lower hl, k.ne, Nat.le_trans hl k.lo_, k.srt, k.len, k.ok⟩, rfl⟩
theorem newOr_refl (B : Nat) (F : List Nat) : NewOr B F F := newOr_iff.2 fun _ h => .inl h
theorem ins_take (x : Att) (L : List Att) {n m : Nat} (hl : L.length = n) (hm : m = min (n + 1) 200) : (ins x L).take m = (ins x L).take 200 := by
  have h := ins_length x L
  by_cases h2 : n + 1 ≤ 200
  · rw [hm, Nat.min_eq_left h2, List.take_of_length_le (by omega), List.take_of_length_le (by omega)]
  · rw [hm, Nat.min_eq_right (by omega)]
theorem newOr_set {B : Nat} {A A1 : Option Addr} {n n1 c c1 g : Nat} (h : ∀ q, (Value.slice A1 n1 c1).ownBlock = some q → (Value.slice A n c).ownBlock = some q ∨ B ≤ q) : NewOr B (g :: blk (.slice A n c)) (g :: blk (.slice A1 n1 c1)) := newOr_iff.2 fun s hs => by
  rcases List.mem_cons.1 hs with rfl | hs
  · exact .inl (by simp)
  · rcases h s (blk_mem hs) with h1 | h1
    · exact .inl (List.mem_cons_of_mem _ (mem_blk h1))
    · exact .inr h1
theorem own_cut (A : Option Addr) (n n' c c' : Nat) : (Value.slice A n c).ownBlock = (Value.slice A n' c').ownBlock := by cases A <;> rfl
end
end Mur
namespace Mur
open Go Go.RowKit Wk
section
variable {w w' : World} {base e n c : Nat} {A : Option Addr} {L : List Att}
theorem OwnA.off_obj (h : OwnA w base e A n c L) {r : Nat} {o : Obj} (ho : w.heap[r]? = some o) (hc : o.isCells = false) : ∀ q, (Value.slice A n c).ownBlock = some q → q ≠ r := fun q hq e1 => by
  rcases h.cur with ⟨rfl, rfl, rfl⟩ | ⟨g, cur, rfl, hb, hg, hcs, ht⟩
  · cases hq
  · have : g = q := by simpa [Value.ownBlock] using hq
    subst this
    rw [e1, ho] at hg
    cases hg
    cases hc
theorem OwnA.isCells (h : OwnA w base e A n c L) {s : Nat} (hs : s ∈ blk (.slice A n c)) : ∃ o : Obj, w.heap[s]? = some o ∧ o.isCells = true := by
  have hq := blk_mem hs
  rcases h.cur with ⟨rfl, rfl, rfl⟩ | ⟨g, cur, rfl, hb, hg, hcs, ht⟩
  · cases hq
  · have : g = s := by simpa [Value.ownBlock] using hq
    subst this
    exact ⟨_, hg, rfl⟩
theorem cells_ne {g r : Nat} {cs : Array Value} {t : TypeId} {fr : Nat × Nat} {o : Obj} (hg : w.heap[g]? = some (.cells cs t fr)) (ho : w.heap[r]? = some o) (hc : o.isCells = false) : g ≠ r := fun e => by
  rw [e, ho] at hg
  cases hg
  cases hc
theorem cells_ne' {g r : Nat} {cs : Array Value} {t : TypeId} {fr : Nat × Nat} (hg : w.heap[g]? = some (.cells cs t fr)) (ho : ∃ x, w.heap[r]? = some (.loop x)) : g ≠ r := let ⟨_, h⟩ := ho; cells_ne hg h rfl
theorem OwnA.off_loop (h : OwnA w base e A n c L) {r : Nat} (ho : ∃ x, w.heap[r]? = some (.loop x)) : ∀ q, (Value.slice A n c).ownBlock = some q → q ≠ r := let ⟨_, k⟩ := ho; h.off_obj k rfl
theorem SetA.keep {T lo g : Nat} {F : List Nat} (h : SetA e T lo w g L A n c) (k : Keep F w w') (hF : ∀ s, s ∈ g :: blk (.slice A n c) → s ∈ F) : SetA e T lo w' g L A n c := by
  refine ⟨k.hp h.hp (hF g (by simp)), ?_, h.ne, h.lo_, h.srt, h.len, h.ok⟩
  rcases h.own.cur with ⟨rfl, rfl, rfl⟩ | ⟨q, cur, rfl, hb, hg, hcs, ht⟩
  · have := List.eq_nil_of_length_eq_zero h.own.sl.len
    subst this
    exact ownA_nil _ _ _
  · exact OwnA.of hb (k.hp hg (hF q (by simp [blk, Value.ownBlock]))) h.own.nc h.own.cm hcs ht h.own.sl.len
def pblk (A : Option Addr) (n : Nat) : List Nat := if n = 0 then [] else match A with
  | some a => [a.block]
  | none => []
theorem pblk_mem {q off : Nat} (h : A = some ⟨q, off, none⟩) (hn : 0 < n) : q ∈ pblk A n := by
  subst h
  unfold pblk
  rw [if_neg (by omega)]
  simp
theorem pblk_lt {l : List UInt8} (h : Byt w A n l) : ∀ s, s ∈ pblk A n → s < w.heap.size := fun s hs => by
  unfold pblk at hs
  split at hs
  · simp at hs
  · rename_i hn
    obtain ⟨g, off, rfl, hc⟩ := h.2 (by omega)
    simp at hs
    subst hs
    exact World.block_lt_of_cell? w ⟨s, off + 0, none⟩ (hc 0 (by omega))
theorem byt_keep {F : List Nat} {l : List UInt8} (h : Byt w A n l) (k : Keep F w w') (hF : ∀ s, s ∈ pblk A n → s ∈ F) : Byt w' A n l := ⟨h.1, fun hn => by
  obtain ⟨g, off, rfl, hc⟩ := h.2 hn
  exact ⟨g, off, rfl, fun j hj => k.cell (hc j hj) (hF g (pblk_mem rfl hn))⟩⟩
end
theorem filter_next {L : List Att} {k : Nat} {x : Att} (f : Att → Bool) (hx : L[k]? = some x) : (L.take (k + 1)).filter f = (L.take k).filter f ++ if f x then [x] else [] := by
  obtain ⟨hk, rfl⟩ := List.getElem?_eq_some_iff.1 hx
  rw [List.take_succ_eq_append_getElem hk, List.filter_append]
  congr 1
  rw [List.filter_cons]
  rfl
theorem filter_yes {L : List Att} {k : Nat} {x : Att} {f : Att → Bool} (hx : L[k]? = some x) (h : f x = true) : (L.take (k + 1)).filter f = (L.take k).filter f ++ [x] := by rw [filter_next f hx, h]; rfl
theorem filter_no {L : List Att} {k : Nat} {x : Att} {f : Att → Bool} (hx : L[k]? = some x) (h : f x = false) : (L.take (k + 1)).filter f = (L.take k).filter f := by rw [filter_next f hx, h]; simp
theorem filter_split {L : List Att} {k : Nat} {x : Att} {f : Att → Bool} (hx : L[k]? = some x) (h : f x = true) : L.filter f = (L.take k).filter f ++ x :: (L.drop (k + 1)).filter f := by
  have h1 : L = L.take (k + 1) ++ L.drop (k + 1) := (List.take_append_drop _ _).symm
  calc L.filter f = (L.take (k + 1) ++ L.drop (k + 1)).filter f := by rw [← h1]
    _ = _ := by rw [List.filter_append, filter_yes hx h, List.append_assoc]; rfl
theorem filter_all {L : List Att} {k : Nat} {f : Att → Bool} (h : L.length ≤ k) : (L.take k).filter f = L.filter f := by rw [List.take_of_length_le h]
theorem under_all {p k : List UInt8} {n j : Nat} (hl : p.length = n) (hj : n ≤ j) (h : ∀ i, i < j → nib k i = p.getD i 0) : under p k = true := under_iff.2 fun i hi => h i (by omega)
theorem nib_step {p k : List UInt8} {j : Nat} (h : ∀ i, i < j → nib k i = p.getD i 0) (e : nib k j = p.getD j 0) : ∀ i, i < j + 1 → nib k i = p.getD i 0 := fun i hi => by
  rcases Nat.lt_or_ge i j with h1 | h1
  · exact h i h1
  · obtain rfl : i = j := by omega
    exact e
theorem u8_cast_inj {a b : UInt8} (h : ((a.toNat : Nat) : Int) = ((b.toNat : Nat) : Int)) : a = b := UInt8.toNat_inj.1 (by omega)
theorem belowL_len (p : List UInt8) (L : List Att) : (belowL p L).length ≤ L.length := by
  unfold belowL
  split
  · exact List.length_filter_le _ _
  · simp
def rowL (M : List Att) : List UInt8 := 32 :: (M.map Att.raw).flatten
def encA (x : Att) : Array Value := #[.agg (attC x.k x.r x.n x.t).toArray]
end Mur
namespace Mur
open Go Go.RowKit Go.Lib
theorem u8_shr4 (a : UInt8) : (a >>> 4).toNat = a.toNat / 16 := by
  rw [UInt8.toNat_shiftRight]
  show a.toNat >>> 4 = _
  rw [Nat.shiftRight_eq_div_pow]
theorem u8_and15 (a : UInt8) : (a &&& 15).toNat = a.toNat % 16 := by
  rw [UInt8.toNat_and]
  exact Nat.and_two_pow_sub_one_eq_mod a.toNat 4
theorem cmp_head : ∀ (l r : List UInt8) (j : Nat), j < l.length → j < r.length → (∀ i, i < j → l.getD i 0 = r.getD i 0) → compareBytes l r < 0 → (l.getD j 0).toNat ≤ (r.getD j 0).toNat
  | [], _, _, h, _, _, _ => by simp at h
  | _ :: _, [], _, _, h, _, _ => by simp at h
  | x :: l, y :: r, 0, _, _, _, h => by
    unfold compareBytes at h
    by_cases h1 : x < y
    · exact Nat.le_of_lt (UInt8.lt_iff_toNat_lt.1 h1)
    · by_cases h2 : y < x
      · rw [if_neg h1, if_pos h2] at h
        omega
      · exact UInt8.le_iff_toNat_le.1 (UInt8.not_lt.1 h2)
  | x :: l, y :: r, j + 1, h1, h2, h3, h => by
    have hxy : x = y := by simpa using h3 0 (by omega)
    subst hxy
    unfold compareBytes at h
    rw [if_neg (UInt8.lt_irrefl x), if_neg (UInt8.lt_irrefl x)] at h
    exact cmp_head l r j (by simpa using h1) (by simpa using h2) (fun i hi => by simpa using h3 (i + 1) (by omega)) h
theorem raw_getD (x : Att) (i : Nat) (hi : i < 32) : x.raw.getD i 0 = x.k.getD i 0 := by
  unfold Att.raw rawL
  have hk := x.hk
  simp only [List.getD_eq_getElem?_getD]
  rw [List.getElem?_append_left (by simp only [List.length_append]; omega), List.getElem?_append_left (by simp only [List.length_append]; omega), List.getElem?_append_left (by omega)]
theorem nibs_eq {a b : UInt8} (h : a >>> 4 = b >>> 4) (k : a &&& 15 = b &&& 15) : a = b := by
  have h1 := congrArg UInt8.toNat h
  have h2 := congrArg UInt8.toNat k
  rw [u8_shr4, u8_shr4] at h1
  rw [u8_and15, u8_and15] at h2
  exact UInt8.toNat_inj.1 (by omega)
theorem nib_le {x y : Att} (h : x.lt y) {N : Nat} (hN : N < 64) (he : ∀ i, i < N → nib x.k i = nib y.k i) : (nib x.k N).toNat ≤ (nib y.k N).toNat := by
  have hb : ∀ i, i < N / 2 → x.raw.getD i 0 = y.raw.getD i 0 := fun i hi => by
    rw [raw_getD x i (by omega), raw_getD y i (by omega)]
    have h1 := he (2 * i) (by omega)
    have h2 := he (2 * i + 1) (by omega)
    unfold nib at h1 h2
    rw [if_pos (by omega), if_pos (by omega), show 2 * i / 2 = i by omega] at h1
    rw [if_neg (by omega), if_neg (by omega), show (2 * i + 1) / 2 = i by omega] at h2
    exact nibs_eq h1 h2
  have hl : (x.raw.getD (N / 2) 0).toNat ≤ (y.raw.getD (N / 2) 0).toNat := cmp_head x.raw y.raw (N / 2) (by rw [show x.raw.length = 104 by have := x.hk; have := x.hr; have := x.ht; simp [Att.raw, rawL, e8_length, *]]; omega) (by rw [show y.raw.length = 104 by have := y.hk; have := y.hr; have := y.ht; simp [Att.raw, rawL, e8_length, *]]; omega) hb h
  rw [raw_getD x _ (by omega), raw_getD y _ (by omega)] at hl
  unfold nib
  by_cases hp : N % 2 = 0
  · rw [if_pos hp, if_pos hp, u8_shr4, u8_shr4]
    omega
  · rw [if_neg hp, if_neg hp, u8_and15, u8_and15]
    have h1 := he (N - 1) (by omega)
    unfold nib at h1
    rw [if_pos (by omega), if_pos (by omega), show (N - 1) / 2 = N / 2 by omega] at h1
    have h2 := congrArg UInt8.toNat h1
    rw [u8_shr4, u8_shr4] at h2
    omega
theorem filter_step (f : Att → Nat) (t : Nat) : ∀ L : List Att, L.Pairwise (fun a b => f a ≤ f b) → L.filter (fun x => decide (f x < t + 1)) = L.filter (fun x => decide (f x < t)) ++ L.filter (fun x => decide (f x = t))
  | [], _ => rfl
  | x :: L, h => by
    obtain ⟨h1, h2⟩ := List.pairwise_cons.1 h
    have ih := filter_step f t L h2
    rcases Nat.lt_trichotomy (f x) t with h3 | h3 | h3
    · rw [List.filter_cons_of_pos (by simp; omega), List.filter_cons_of_pos (by simp; omega), List.filter_cons_of_neg (by simp; omega), ih]
      rfl
    · have hn : L.filter (fun x => decide (f x < t)) = [] := List.filter_eq_nil_iff.2 fun y hy => by have := h1 y hy; simp; omega
      rw [List.filter_cons_of_pos (by simp; omega), List.filter_cons_of_neg (by simp; omega), List.filter_cons_of_pos (by simp; omega), ih, hn]
      rfl
    · have hn : ∀ y, y ∈ L → t < f y := fun y hy => by have := h1 y hy; omega
      rw [List.filter_cons_of_neg (by simp; omega), List.filter_cons_of_neg (by simp; omega), List.filter_cons_of_neg (by simp; omega), List.filter_eq_nil_iff.2 fun y hy => by have := hn y hy; simp; omega, List.filter_eq_nil_iff.2 fun y hy => by have := hn y hy; simp; omega, List.filter_eq_nil_iff.2 fun y hy => by have := hn y hy; simp; omega]
      rfl
def upto (p : List UInt8) (L : List Att) (t : Nat) : List Att := (belowL p L).filter fun x => decide ((nib x.k p.length).toNat < t)
theorem upto_zero (p : List UInt8) (L : List Att) : upto p L 0 = [] := List.filter_eq_nil_iff.2 fun y _ => by simp
theorem nib_lt (k : List UInt8) (i : Nat) : (nib k i).toNat < 16 := by
  unfold nib
  split
  · rw [u8_shr4]
    have := (k.getD (i / 2) 0).toNat_lt
    omega
  · rw [u8_and15]
    omega
theorem upto_all (p : List UInt8) (L : List Att) {t : Nat} (ht : 16 ≤ t) : upto p L t = belowL p L := List.filter_eq_self.2 fun y _ => by have := nib_lt y.k p.length; simp; omega
theorem pre_snoc {p : List UInt8} {u : UInt8} (h : isPre p = true) (hl : p.length < 8) (hu : u.toNat < 16) : isPre (p ++ [u]) = true := by
  unfold isPre at h ⊢
  simp only [Bool.and_eq_true, decide_eq_true_eq, List.all_eq_true, List.length_append, List.length_cons, List.length_nil] at h ⊢
  refine ⟨fun x hx => ?_, by omega⟩
  rcases List.mem_append.1 hx with hx | hx
  · exact h.1 x hx
  · rw [List.mem_singleton.1 hx]
    exact UInt8.le_iff_toNat_le.2 (by show u.toNat ≤ 15; omega)
theorem under_snoc (p k : List UInt8) (u : UInt8) : under (p ++ [u]) k = (under p k && decide ((nib k p.length).toNat = u.toNat)) := by
  rw [Bool.eq_iff_iff, Bool.and_eq_true, decide_eq_true_eq, under_iff, under_iff]
  constructor
  · intro h
    refine ⟨fun i hi => ?_, ?_⟩
    · have := h i (by simp; omega)
      rwa [List.getD_eq_getElem?_getD, List.getElem?_append_left hi, ← List.getD_eq_getElem?_getD] at this
    · have := h p.length (by simp)
      rw [this]
      simp
  · rintro ⟨h1, h2⟩ i hi
    rw [List.length_append, List.length_singleton] at hi
    rcases Nat.lt_or_ge i p.length with h3 | h3
    · rw [List.getD_eq_getElem?_getD, List.getElem?_append_left h3, ← List.getD_eq_getElem?_getD]
      exact h1 i h3
    · obtain rfl : i = p.length := by omega
      rw [UInt8.toNat_inj.1 h2]
      simp
theorem upto_step {p : List UInt8} {L : List Att} {u : UInt8} (hs : Sorted L) (h : isPre p = true) (hl : p.length < 8) (hu : u.toNat < 16) : upto p L (u.toNat + 1) = upto p L u.toNat ++ belowL (p ++ [u]) L := by
  have hB : belowL (p ++ [u]) L = (belowL p L).filter fun x => decide ((nib x.k p.length).toNat = u.toNat) := by
    rw [belowL_ok (pre_snoc h hl hu), belowL_ok h, List.filter_filter]
    congr 1
    funext x
    rw [under_snoc, Bool.and_comm]
  rw [hB]
  refine filter_step (fun x => (nib x.k p.length).toNat) u.toNat (belowL p L) ?_
  rw [belowL_ok h]
  have h1 : Sorted (L.filter fun x => under p x.k) := hs.filter _
  refine List.Pairwise.imp_of_mem (fun {a b} ha hb hab => nib_le hab (by omega) fun i hi => ?_) h1
  have e1 := under_iff.1 (by simpa using (List.mem_filter.1 ha).2) i hi
  have e2 := under_iff.1 (by simpa using (List.mem_filter.1 hb).2) i hi
  rw [e1, e2]
section
variable {P : Program} {w w' : World} {a : Act} {o : Oper}
theorem inc8 (t ty : TypeId) (x y : Operand) (ho : o.op = .binOp .add t x y ty) (b : UInt8) (hb : b.toNat < 255) (hx : a.eval x = .int .u8 ((b.toNat : Nat) : Int)) (hy : a.eval y = .int .u8 1) : (execOp a.eval o).run P w = .ok (.value (.int .u8 ((b.toNat + 1 : Nat) : Int))) w := by
  have h1 : IntKind.u8.wrap (((b.toNat : Nat) : Int) + 1) = ((b.toNat + 1 : Nat) : Int) := by
    show (((b.toNat : Nat) : Int) + 1) % 256 = _
    omega
  have key : (binOp .add t (.int .u8 ((b.toNat : Nat) : Int)) (.int .u8 1)).run P w = .ok (.int .u8 (IntKind.u8.wrap (((b.toNat : Nat) : Int) + 1))) w := rfl
  have hg : (eqGuard .add t x y (.int .u8 ((b.toNat : Nat) : Int)) (.int .u8 1)).run P w = .ok () w := rfl
  rw [h1] at key
  unfold execOp
  simp only [ho, hx, hy]
  simp only [Sem.run_bind, Sem.run_pure, hg, Result.andThen_ok, key]
end
end Mur
