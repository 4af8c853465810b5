/- Slices of bytes: read, cut, appended to; a digest as a value. No program in sight. -/
import Derived.Test.YtddabjlhidokaaaMem
import Derived.Maps.AppendAt
import Derived.OwnWalk
import Derived.Laws.CopyOwn
import Derived.Laws.MakeOwn
import Derived.Deep.MidRow
import Derived.Laws.OwnMore
namespace Mur
open Go Go.RowKit
def b8 (b : UInt8) : Value := .int .u8 (b.toNat : Int)
def b8s (l : List UInt8) : List Value := l.map fun b => Value.int .u8 (b.toNat : Int)
theorem b8s_length (l : List UInt8) : (b8s l).length = l.length := by simp [b8s]
theorem b8s_append (l r : List UInt8) : b8s (l ++ r) = b8s l ++ b8s r := by simp [b8s]
theorem b8s_get (l : List UInt8) (j : Nat) (h : j < l.length) : (b8s l)[j]? = some (.int .u8 ((l.getD j 0).toNat : Int)) := by
  simp [b8s, h, List.getD_eq_getElem?_getD]
theorem b8s_one (l : List UInt8) : ∀ v ∈ b8s l, v.oneCell' = true := by
  intro v hv
  simp only [b8s, List.mem_map] at hv
  obtain ⟨b, _, rfl⟩ := hv
  rfl
theorem b8s_all (l : List UInt8) : (b8s l).toArray.all (·.oneCell') = true :=
  Array.all_eq_true_iff_forall_mem.2 fun v hv => b8s_one l v (by simpa using hv)
theorem b8s_inj {l r : List UInt8} (h : b8s l = b8s r) : l = r := by
  refine (List.map_inj_right (f := fun b : UInt8 => Value.int .u8 (b.toNat : Int)) ?_).1 h
  intro x y hxy
  injection hxy with _ hxy
  exact UInt8.toNat_inj.1 (by omega)
theorem cell_b8s {w : World} {g t i : Nat} {fr : Nat × Nat} {l : List UInt8} (h : w.heap[g]? = some (.cells (b8s l).toArray t fr)) (hi : i < l.length) : w.cell? ⟨g, i, none⟩ = some (.int .u8 ((l.getD i 0).toNat : Int)) := by
  rw [cell_of_row w g i _ t _ h]
  simpa using b8s_get l i hi
theorem set_b8s {w : World} {g t i : Nat} {l : List UInt8} (h : w.heap[g]? = some (.cells (b8s l).toArray t (0, 0))) (x : UInt8) : (w.setCell ⟨g, i, none⟩ (.int .u8 (x.toNat : Int))).heap[g]? = some (.cells (b8s (l.set i x)).toArray t (0, 0)) := by
  rw [heap_setCell_same w g i _ t _ h]
  simp [b8s, List.map_set]
/-- A digest, as a value. -/
def dgV (d : List UInt8) : Value := .agg (b8s d).toArray

/-- Bytes that are read off a slice of n of them, nil or not. -/
def Byt (w : World) (A : Option Addr) (n : Nat) (l : List UInt8) : Prop :=
  l.length = n ∧ (0 < n → ∃ g off, A = some ⟨g, off, none⟩ ∧ ∀ j, j < n → w.cell? ⟨g, off + j, none⟩ = some (.int .u8 ((l.getD j 0).toNat : Int)))
theorem Byt.nil (w : World) (A : Option Addr) : Byt w A 0 [] := ⟨rfl, fun h => absurd h (by omega)⟩
theorem Byt.keep {w w1 : World} {A : Option Addr} {n : Nat} {l : List UInt8} (h : Byt w A n l) (hk : ∀ a v, w.cell? a = some v → w1.cell? a = some v) : Byt w1 A n l :=
  ⟨h.1, fun hn => by
    obtain ⟨g, off, e, hc⟩ := h.2 hn
    exact ⟨g, off, e, fun j hj => hk _ _ (hc j hj)⟩⟩
theorem Byt.below {w w1 : World} {A : Option Addr} {n : Nat} {l : List UInt8} (h : Byt w A n l) (hb : Below w.heap.size w w1) : Byt w1 A n l := h.keep fun _ _ hc => cell_below hb hc
theorem Byt.drewN {w : World} {A : Option Addr} {n : Nat} {l : List UInt8} (h : Byt w A n l) (k : Nat) : Byt (w.drewN k) A n l := h
theorem Byt.block {w : World} {g off n : Nat} {l : List UInt8} (h : Byt w (some ⟨g, off, none⟩) n l) (hn : 0 < n) : g < w.heap.size := by
  obtain ⟨g', off', e, hc⟩ := h.2 hn
  injection e with e
  injection e with e1 e2
  subst e1
  exact World.block_lt_of_cell? w ⟨g, off' + 0, none⟩ (hc 0 hn)
theorem Byt.at_ {w : World} {g off n : Nat} {l : List UInt8} (h : Byt w (some ⟨g, off, none⟩) n l) (j : Nat) (hj : j < n) : w.cell? ⟨g, off + j, none⟩ = some (.int .u8 ((l.getD j 0).toNat : Int)) := by
  obtain ⟨g', off', e, hc⟩ := h.2 (by omega)
  injection e with e
  injection e with e1 e2
  subst e1 e2
  exact hc j hj
/-- The address behind a cut at l of a slice with c places. -/
def cutA (A : Option Addr) (c l : Nat) : Option Addr := if c = l then A else A.map (·.add l)
theorem Byt.cut {w : World} {A : Option Addr} {n c : Nat} {l : List UInt8} (h : Byt w A n l) (k m : Nat) (hkm : k ≤ m) (hm : m ≤ n) (hnc : n ≤ c) : Byt w (cutA A c k) (m - k) ((l.take m).drop k) := by
  refine ⟨by rw [List.length_drop, List.length_take, h.1]; omega, fun hp => ?_⟩
  obtain ⟨g, off, rfl, hc⟩ := h.2 (by omega)
  refine ⟨g, off + k, ?_, fun j hj => ?_⟩
  · unfold cutA
    rw [if_neg (by omega)]
    simp [Addr.add_mid]
  · rw [show off + k + j = off + (k + j) by omega, hc (k + j) (by omega)]
    simp only [List.getD_eq_getElem?_getD, List.getElem?_drop, List.getElem?_take]
    rw [if_pos (by omega)]
theorem Byt.from_ {w : World} {A : Option Addr} {n c : Nat} {l : List UInt8} (h : Byt w A n l) (k : Nat) (hk : k ≤ n) (hnc : n ≤ c) : Byt w (cutA A c k) (n - k) (l.drop k) := by
  have := h.cut k n hk (Nat.le_refl _) hnc
  rwa [List.take_of_length_le (by rw [h.1]; exact Nat.le_refl _)] at this

theorem cutA_some (a : Addr) (c l : Nat) : cutA (some a) c l ≠ none := by unfold cutA; split <;> simp
theorem cutA_block {a : Addr} {c l : Nat} {b : Addr} (h : cutA (some a) c l = some b) : b.block = a.block := by
  unfold cutA at h
  split at h
  · injection h with h; rw [h]
  · simp only [Option.map_some, Option.some.injEq] at h
    rw [← h]
    unfold Addr.add
    split <;> rfl
/-- A box of one byte, just made. -/
theorem Byt_box (W : World) (x : UInt8) (t : TypeId) : Byt (W.alloc (.cells #[.int .u8 (x.toNat : Int)] t)) (some ⟨W.heap.size, 0, none⟩) 1 [x] := by
  refine ⟨rfl, fun _ => ⟨_, 0, rfl, fun j hj => ?_⟩⟩
  obtain rfl : j = 0 := by omega
  simp
/-- What the call owns reads as bytes. -/
theorem own_byt {w : World} {base n : Nat} {e : TypeId} {v : Value} {l : List UInt8} (h : w.ownsRow base e 1 v n (b8s l)) : ∃ A c, v = .slice A n c ∧ n ≤ c ∧ c ≤ maxLen ∧ Byt w A n l := by
  have hl : l.length = n := by have := h.1; simpa [b8s_length] using this
  rcases h.2 with ⟨rfl, rfl⟩ | ⟨g, cap, cur, rfl, _, hg, hnc, hcm, _, htake⟩
  · exact ⟨none, 0, rfl, Nat.le_refl _, by unfold maxLen; omega, hl, fun hp => absurd hp (by omega)⟩
  · refine ⟨_, cap, rfl, hnc, hcm, hl, fun _ => ⟨g, 0, rfl, fun j hj => ?_⟩⟩
    have := h.cells (g := g) rfl j _ (b8s_get l j (by omega))
    rwa [Addr.add_mid] at this

section
variable {P : Program} {ops : Array Oper} {rest : List Oper} {o : Oper} {a : Act} {Q : Exit → Act → World → Prop} {w : World}
theorem run_cut (t e : TypeId) (ht : P.underlying t = some (.slice e)) (hsz : (P.info? e).map (·.size) = some 1) (A : Option Addr) (n c l h : Nat) (hl : l ≤ h) (hh : h ≤ n) (hnc : n ≤ c) :
    (Instr.sliceAt t (.slice A n c) (some (.int .i64 (l : Int))) (some (.int .i64 (h : Int))) none).run P w = .ok (.slice (cutA A c l) (h - l) (c - l)) w := by
  obtain ⟨i, hi, hs⟩ := Option.map_eq_some_iff.1 hsz
  simp [Instr.sliceAt, Instr.slice, run_underlying ht, Instr.sliceBounds, Go.sizeOf, typeInfo, hi, hs, cutA, run_sliceBound w .i64 (h : Int) c _ (by omega) (by omega), run_sliceBound w .i64 (l : Int) h _ (by omega) (by omega)]
theorem run_cut_from (t e : TypeId) (ht : P.underlying t = some (.slice e)) (hsz : (P.info? e).map (·.size) = some 1) (A : Option Addr) (n c l : Nat) (hl : l ≤ n) (_hnc : n ≤ c) :
    (Instr.sliceAt t (.slice A n c) (some (.int .i64 (l : Int))) none none).run P w = .ok (.slice (cutA A c l) (n - l) (c - l)) w := by
  obtain ⟨i, hi, hs⟩ := Option.map_eq_some_iff.1 hsz
  simp [Instr.sliceAt, Instr.slice, run_underlying ht, Instr.sliceBounds, Go.sizeOf, typeInfo, hi, hs, cutA, run_sliceBound w .i64 (l : Int) n _ (by omega) (by omega)]
theorem run_cut_to (t e : TypeId) (ht : P.underlying t = some (.slice e)) (hsz : (P.info? e).map (·.size) = some 1) (A : Option Addr) (n c h : Nat) (hh : h ≤ n) (hnc : n ≤ c) :
    (Instr.sliceAt t (.slice A n c) none (some (.int .i64 (h : Int))) none).run P w = .ok (.slice (cutA A c 0) h c) w := by
  obtain ⟨i, hi, hs⟩ := Option.map_eq_some_iff.1 hsz
  simp [Instr.sliceAt, Instr.slice, run_underlying ht, Instr.sliceBounds, Go.sizeOf, typeInfo, hi, cutA, run_sliceBound w .i64 (h : Int) c _ (by omega) (by omega)]
theorem wpList_cut_from (hgd : o.guard = none) (t : TypeId) (x y : Operand) (ho : o.op = .slice t x (some y) none none) (e : TypeId) (ht : P.underlying t = some (.slice e)) (hsz : (P.info? e).map (·.size) = some 1)
    (A : Option Addr) (n c l : Nat) (hx : a.eval x = .slice A n c) (hy : a.eval y = .int .i64 (l : Int)) (hl : l ≤ n) (hnc : n ≤ c)
    (h : wpList P ops Q rest (a.put o.dst (.slice (cutA A c l) (n - l) (c - l))) w) : wpList P ops Q (o :: rest) a w := by
  refine wpList_plain hgd fun K hK => ?_
  unfold Oper.wp execOp
  simp only [ho, hx, hy, Option.map_some, Option.map_none, Sem.run_bind, run_cut_from t e ht hsz A n c l hl hnc, Result.andThen_ok, Sem.run_pure]
  exact hK _ _ h

/-- append(v, xs...): v the call's own, xs bytes that are read, nil let in. -/
theorem run_append_byt (base : Nat) (t ty e : TypeId) (ht : P.underlying t = some (.slice e)) (hinfo : (P.info? e).map (fun i => (i.zero, i.size, i.bytes)) = some (some (.int .u8 0), 1, 1))
    (v : Value) (N : Nat) (xs ys : List UInt8) (A : Option Addr) (m c : Nat) (HO : w.ownsRow base e 1 v N (b8s xs)) (HR : Byt w A m ys) (hA : A = none → c = 0) (hbase : base ≤ w.heap.size) (hl : N + m ≤ 140737488355328) :
    ∃ v1 w1, (Builtin.append_ #[t, t] ty #[v, .slice A m c]).run P w = .ok v1 w1 ∧ w1.ownsRow base e 1 v1 (N + m) (b8s (xs ++ ys)) ∧ w.grownBy w1 v.ownBlock ∧ (v1.ownBlock = v.ownBlock ∨ v1.ownBlock = some w.heap.size) := by
  obtain ⟨i0, hi, hzz⟩ := Option.map_eq_some_iff.1 hinfo
  simp only [Prod.mk.injEq] at hzz
  obtain ⟨hz0, hz1, hz2⟩ := hzz
  have hm : ys.length = m := HR.1
  rcases A with _ | ad
  · have h0 : m = 0 := by
      rcases Nat.eq_zero_or_pos m with h0 | h0
      · exact h0
      · obtain ⟨g, off, h, _⟩ := HR.2 h0
        cases h
    subst h0
    obtain rfl : ys = [] := List.eq_nil_of_length_eq_zero hm
    obtain rfl := hA rfl
    refine ⟨v, w, ?_, by simpa using HO, ⟨rfl, rfl, rfl, Nat.le_refl _, fun _ _ _ => rfl⟩, .inl rfl⟩
    exact run_append_owned_none (P := P) (w := w) base t ty e i0 1 ht hi v N (b8s xs) HO
  · have hcells : ∀ j u, (b8s ys)[j]? = some u → w.cell? (ad.add j) = some u := by
      intro j u hu
      have hj : j < ys.length := by
        rcases Nat.lt_or_ge j ys.length with h | h
        · exact h
        · rw [List.getElem?_eq_none (by rw [b8s_length]; exact h)] at hu
          cases hu
      obtain ⟨g, off, h', hc⟩ := HR.2 (by omega)
      injection h' with h'
      subst h'
      rw [b8s_get ys j hj] at hu
      injection hu with hu
      subst hu
      rw [Addr.add_mid]
      exact hc j (by omega)
    obtain ⟨v1, w1, hr, h2, h3, _, h5⟩ := run_append_own_at (P := P) w base t ty e i0 (.int .u8 0) 1 1 ht hi hz0 hz1 hz2 rfl (by omega) v N (b8s xs) HO ad m c (b8s ys) (by rw [b8s_length]; omega) hcells
      (b8s_one ys) (by simp only [maxLen]; omega) (by omega) hbase
    exact ⟨v1, w1, hr, by rw [b8s_append]; exact h2, h3, h5⟩
theorem wpList_append_byt {w0 : World} (base : Nat) (hgd : o.guard = none) (s x : Operand) (t e : TypeId) (ho : o.op = .call { callee := .builtin .append, args := #[s, x], argTypes := #[t, t] })
    (ht : P.underlying t = some (.slice e)) (hinfo : (P.info? e).map (fun i => (i.zero, i.size, i.bytes)) = some (some (.int .u8 0), 1, 1))
    (v : Value) (N : Nat) (xs ys : List UInt8) (A : Option Addr) (m c : Nat) (hs : a.eval s = v) (hx : a.eval x = .slice A m c)
    (HO : w.ownsRow base e 1 v N (b8s xs)) (HR : Byt w A m ys) (hA : A = none → c = 0) (HB : Below base w0 w) (hbase : base ≤ w.heap.size) (hl : N + m ≤ 140737488355328)
    (h : ∀ v1 w1, w1.ownsRow base e 1 v1 (N + m) (b8s (xs ++ ys)) → Below base w0 w1 → w.grownBy w1 v.ownBlock → (v1.ownBlock = v.ownBlock ∨ v1.ownBlock = some w.heap.size) → wpList P ops Q rest (a.put o.dst v1) w1) :
    wpList P ops Q (o :: rest) a w := by
  obtain ⟨v1, w1, hr, h2, h3, h5⟩ := run_append_byt (P := P) base t o.type e ht hinfo v N xs ys A m c HO HR hA hbase hl
  refine wpList_plain hgd fun K hK => ?_
  unfold Oper.wp execOp
  simp only [ho, resolve, invoke, builtin, Sem.run_bind, Sem.run_pure, Result.andThen_ok, List.map_toArray, List.map_cons, List.map_nil, hs, hx, hr]
  exact hK _ _ (h v1 w1 h2 (HB.grown h3 hbase (fun k hk => (HO.lt k hk).1)) h3 h5)
end
end Mur
