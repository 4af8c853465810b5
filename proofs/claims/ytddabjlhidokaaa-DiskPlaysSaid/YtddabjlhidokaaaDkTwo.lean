/- Two disks; remainders of unsigned numbers. No program in sight. -/
import Derived.Test.YtddabjlhidokaaaDkOps
import Derived.Laws.Entries
namespace Mur
open Go Go.RowKit Wk
/-- No block of both. -/
def Dj (F G : List Nat) : Prop := ∀ s ∈ F, s ∉ G
theorem Dj.off1 {F G : List Nat} (h : Dj F G) {s : Nat} (hs : s ∈ G) : Off s F := off_iff.2 fun _ ht e => h _ ht (e ▸ hs)
theorem Dj.off2 {F G : List Nat} (h : Dj F G) {s : Nat} (hs : s ∈ F) : Off s G := off_iff.2 fun _ ht e => h s hs (e ▸ ht)
theorem Dj.step1 {F F' G : List Nat} {B g C : Nat} (h : Dj F G) (no : NewOr B F F') (m : ∀ s ∈ G, g ≤ s ∧ s < C) (hB : C ≤ B) : Dj F' G := fun s hs hg => by
  rcases newOr_iff.1 no s hs with h1 | h1
  · exact h s h1 hg
  · have := m s hg; omega
theorem Dj.step2 {F G G' : List Nat} {B g C : Nat} (h : Dj F G) (no : NewOr B G G') (m : ∀ s ∈ F, g ≤ s ∧ s < C) (hB : C ≤ B) : Dj F G' := fun s hs hg => by
  rcases newOr_iff.1 no s hg with h1 | h1
  · exact h s hs h1
  · have := m s hs; omega
theorem app_len (d : Dk) (f : Int) (b : List UInt8) : (d.app f b).x.b.length ≤ d.x.b.length + b.length := by
  unfold Dk.app
  by_cases h : (b.length : Int) > 1048576 - ((d.fil f).b.length : Int)
  · rw [if_pos h]; omega
  · rw [if_neg h]
    unfold Dk.put Dk.fil
    split
    · simp
    · split <;> simp
theorem sync_len (d : Dk) (f : Int) : (d.sync f).x.b.length ≤ d.x.b.length := by
  unfold Dk.sync Dk.put Dk.fil
  split
  · simp
  · split <;> simp
theorem clear_len (d : Dk) (f : Int) : (d.clear f).x.b.length ≤ d.x.b.length := by
  unfold Dk.clear Dk.put
  split
  · simp
  · split <;> simp
theorem app_two (x y : Fil) (b : List UInt8) (k : Nat) : (⟨⟨x.b ++ b.take k ++ b.drop k, x.n⟩, y⟩ : Dk) = ⟨⟨x.b ++ b, x.n⟩, y⟩ := by rw [List.append_assoc, List.take_append_drop]
theorem crash_again {b : List UInt8} {n : Nat} (k : Int) (h : n ≤ b.length) : (Fil.crash ⟨b, n⟩ k).crash 0 = Fil.crash ⟨b, n⟩ k := by
  have h1 := left_le k h
  have h2 : (Fil.crash ⟨b, n⟩ k).left 0 = (⟨b, n⟩ : Fil).left k := by
    unfold Fil.crash
    generalize (⟨b, n⟩ : Fil).left k = m at *
    simp only [Fil.left]
    omega
  unfold Fil.crash at *
  rw [h2, List.take_take, Nat.min_self]
theorem app_fits0 (x y : Fil) (b : List UInt8) (n : Nat) (hb : b.length = n) (h : x.b.length + b.length ≤ 1048576) : Dk.appE ⟨x, y⟩ 0 n = 0 ∧ Dk.app ⟨x, y⟩ 0 b = ⟨⟨x.b ++ b, x.n⟩, y⟩ := by
  have h1 := app_fits ⟨x, y⟩ 0 b n hb (.inl rfl) (by show ¬ (n : Int) > 1048576 - (x.b.length : Int); omega)
  exact h1
theorem dsk_zero {e T : TypeId} {w : World} {g : Nat} (h : w.heap[g]? = some (.cells #[.slice none 0 0, .int .i64 0, .slice none 0 0, .int .i64 0] T (0, 0))) : DskF e T w g Dk.new [g] :=
  ⟨_, _, ⟨h, own_nil w (g + 1) e, own_nil w (g + 1) e, fun k hk => (by cases hk), ⟨Nat.le_refl _, by show (0 : Nat) ≤ _; omega⟩, ⟨Nat.le_refl _, by show (0 : Nat) ≤ _; omega⟩⟩, rfl⟩
theorem app_new (b : List UInt8) (n : Nat) (hb : b.length = n) (h : n ≤ 1000) : Dk.appE Dk.new 0 n = 0 ∧ Dk.app Dk.new 0 b = ⟨⟨b, 0⟩, ⟨[], 0⟩⟩ := app_fits0 ⟨[], 0⟩ ⟨[], 0⟩ b n hb (by show (0 : Nat) + b.length ≤ 1048576; omega)
theorem crash_again_d (d : Dk) (h : d.x.ok ∧ d.y.ok) (k0 k1 : Int) : (d.crash k0 k1).crash 0 0 = d.crash k0 k1 := by
  obtain ⟨⟨xb, xn⟩, ⟨yb, yn⟩⟩ := d
  show (⟨_, _⟩ : Dk) = ⟨_, _⟩
  congr 1
  · exact crash_again k0 h.1.1
  · exact crash_again k1 h.2.1
section
variable {P : Program} {w : World} {a : Act} {o : Oper}
/-- An int as a uint64. -/
theorem to_u64 (s t : TypeId) (x : Operand) (ho : o.op = .convert s t x) (hs : (P.underlying s).isSome = true) (ht : P.underlying t = some (.int .u64)) (k : IntKind) (z : Int) (hx : a.eval x = .int k z) :
    ∃ v w1, (execOp a.eval o).run P w = .ok (.value v) w1 ∧ ∃ u : Nat, v = .int .u64 (u : Int) ∧ w = w1 ∧ (u : Int) = IntKind.u64.wrap z := by
  have h0 : 0 ≤ IntKind.u64.wrap z := by
    simp only [IntKind.wrap]
    exact Int.emod_nonneg _ (by decide)
  have hk : P.intKind t = .u64 := by simp [Program.intKind, ht]
  refine ⟨_, w, ?_, (IntKind.u64.wrap z).toNat, rfl, rfl, Int.toNat_of_nonneg h0⟩
  have key : (convert s t (.int k z)).run P w = .ok (.int .u64 (IntKind.u64.wrap z)) w := by
    have := run_convert_int (P := P) (w := w) s t k z hs (by rw [ht, hk])
    rw [this, hk]
  unfold execOp
  simp only [ho, hx, Sem.run_bind, key, Result.andThen_ok, Sem.run_pure, Int.toNat_of_nonneg h0]
theorem conv_int (s t : TypeId) (x : Operand) (ho : o.op = .convert s t x) (hs : (P.underlying s).isSome = true) (k' : IntKind) (ht : P.underlying t = some (.int k')) (k : IntKind) (z : Int) (hx : a.eval x = .int k z) (hz : k'.wrap z = z) :
    (execOp a.eval o).run P w = .ok (.value (.int k' z)) w := by
  have hk : P.intKind t = k' := by simp [Program.intKind, ht]
  have key : (convert s t (.int k z)).run P w = .ok (.int k' z) w := by
    have := run_convert_int (P := P) (w := w) s t k z hs (by rw [ht, hk])
    rw [this, hk, hz]
  unfold execOp
  simp only [ho, hx, Sem.run_bind, key, Result.andThen_ok, Sem.run_pure]
theorem u64_nat {n : Nat} (h : n < 18446744073709551616) : IntKind.u64.wrap (n : Int) = (n : Int) := by
  have h1 : IntKind.u64.wrap (n : Int) = (n : Int) % 18446744073709551616 := rfl
  rw [h1, Int.emod_eq_of_lt (by omega) (by omega)]
theorem i64_nat {n : Nat} (h : n < 9223372036854775808) : IntKind.i64.wrap (n : Int) = (n : Int) := IntWalk.i64_in _ ⟨by omega, by omega⟩
/-- A remainder of two unsigned numbers. -/
theorem rem_u64 (t ty : TypeId) (x y : Operand) (ho : o.op = .binOp .rem t x y ty) (i n : Nat) (hx : a.eval x = .int .u64 (i : Int)) (hy : a.eval y = .int .u64 (n : Int)) (hn : 0 < n) :
    (execOp a.eval o).run P w = .ok (.value (.int .u64 ((i % n : Nat) : Int))) w := by
  have hne : ¬ n = 0 := by omega
  unfold execOp
  simp only [ho, hx, hy]
  simp [eqGuard, binOp, Op.intDiv, hne, Int.tmod_eq_emod_of_nonneg (show (0 : Int) ≤ (i : Int) by omega)]
theorem run_op_from (t : TypeId) (x y : Operand) (ho : o.op = .slice t x (some y) none none) (e : TypeId) (ht : P.underlying t = some (.slice e)) (hsz : (P.info? e).map (·.size) = some 1) (A : Option Addr) (n c l : Nat)
    (hx : a.eval x = .slice A n c) (hy : a.eval y = .int .i64 (l : Int)) (hl : l ≤ n) (hnc : n ≤ c) : (execOp a.eval o).run P w = .ok (.value (.slice (cutA A c l) (n - l) (c - l))) w := by
  unfold execOp
  simp only [ho, hx, hy, Option.map_some, Option.map_none, Sem.run_bind, run_cut_from t e ht hsz A n c l hl hnc, Result.andThen_ok, Sem.run_pure]
theorem byt_from {A : Option Addr} {n c : Nat} {l : List UInt8} (h : Byt w A n l) (k : Nat) (hk : k ≤ n) (hnc : n ≤ c) : Byt w (cutA A c k) (n - k) (l.drop k) := by
  have := h.cut k n hk (Nat.le_refl _) hnc
  rwa [List.take_of_length_le (by rw [h.1]; exact Nat.le_refl _)] at this
theorem cut_none' {A : Option Addr} {c k : Nat} (h : A = none → c = 0) : cutA A c k = none → c - k = 0 := fun e => by
  have := cut_none h e
  omega
/-- A remainder, back as an int. -/
theorem rem_i64 (s t : TypeId) (x : Operand) (ho : o.op = .convert s t x) (hs : (P.underlying s).isSome = true) (ht : P.underlying t = some (.int .i64)) (i n : Nat) (hn : n < 9223372036854775807) (hx : a.eval x = .int .u64 ((i % (n + 1) : Nat) : Int)) :
    ∃ v w1, (execOp a.eval o).run P w = .ok (.value v) w1 ∧ ∃ u : Nat, v = .int .i64 (u : Int) ∧ w = w1 ∧ u ≤ n := by
  have h := Nat.mod_lt i (show 0 < n + 1 by omega)
  exact ⟨_, w, conv_int s t x ho hs .i64 ht .u64 _ hx (i64_nat (by omega)), i % (n + 1), rfl, rfl, by omega⟩
end
end Mur
