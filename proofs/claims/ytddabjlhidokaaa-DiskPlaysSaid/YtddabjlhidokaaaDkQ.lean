/- For DiskPlays: bytes turned in a slice of one's own, a long row made, the document's disk turned in place. No program in sight. -/
import Derived.Test.YtddabjlhidokaaaDkR
import Derived.Laws.MakeOwn
namespace Mur
open Go Go.RowKit Wk
section
variable {P : Program} {w w' : World} {a : Act} {o : Oper}
theorem own_store (ty : TypeId) (x y : Operand) (ho : o.op = .store ty x y) (hi : (P.info? ty).map (·.size) = some 1) (g i : Nat) (hx : a.eval x = .pointer (some ⟨g, 0 + i * 1, none⟩)) (b : UInt8) (hy : a.eval y = .int .u8 ((b.toNat : Nat) : Int))
    {base e n c : Nat} {l : List UInt8} (H : Own8 w base e (some ⟨g, 0, none⟩) n c l) (hlt : i < n) :
    ∃ w1, (execOp a.eval o).run P w = .ok .skip w1 ∧ Own8 w1 base e (some ⟨g, 0, none⟩) n c (l.set i b) ∧ Chg [g] w w1 := by
  rw [Nat.zero_add, Nat.mul_one] at hx
  have hl := H.byt.1
  rcases H.own.2 with ⟨e0, h2⟩ | ⟨g', cap, cur, e0, hb, hg, hnc, hcm, hcs, ht⟩
  · cases e0
  · injection e0 with e1 e2 e3
    injection e1 with e1
    injection e1 with e1
    subst e1 e3
    obtain ⟨w1, h1, h2, h3⟩ := store1 (P := P) ty x y ho hi g i hx _ hy rfl e cur hg (by omega)
    refine ⟨w1, h1, own8 ⟨by rw [b8s_length, List.length_set, hl, Nat.mul_one], .inr ⟨g, c, _, rfl, hb, h2, hnc, hcm, by simpa using hcs, ?_⟩⟩, h3⟩
    have e4 : b8s (l.set i b) = (b8s l).set i (.int .u8 ((b.toNat : Nat) : Int)) := by simp [b8s, List.map_set]
    rw [e4, ← ht, Array.toList_setIfInBounds, List.take_set]
theorem own8_some {base e n c : Nat} {A : Option Addr} {l : List UInt8} (h : Own8 w base e A n c l) (hn : 0 < n) : ∃ g, A = some ⟨g, 0, none⟩ ∧ base ≤ g ∧ g < w.heap.size := by
  obtain ⟨g, rfl, _⟩ := own_some h.own hn
  exact ⟨g, rfl, h.at_ g 0 rfl⟩
theorem add8 (t ty : TypeId) (x y : Operand) (ho : o.op = .binOp .add t x y ty) (b : UInt8) (hx : a.eval x = .int .u8 ((b.toNat : Nat) : Int)) (hy : a.eval y = .int .u8 1) : (execOp a.eval o).run P w = .ok (.value (.int .u8 (((b + 1).toNat : Nat) : Int))) w := by
  have h1 : IntKind.u8.wrap (((b.toNat : Nat) : Int) + 1) = (((b + 1).toNat : Nat) : Int) := by
    show (((b.toNat : Nat) : Int) + 1) % 256 = _
    rw [UInt8.toNat_add]
    have := b.toNat_lt
    have h2 : (1 : UInt8).toNat = 1 := rfl
    rw [h2]
    omega
  have key : (binOp .add t (.int .u8 ((b.toNat : Nat) : Int)) (.int .u8 1)).run P w = .ok (.int .u8 (IntKind.u8.wrap (((b.toNat : Nat) : Int) + 1))) w := rfl
  have hg : (eqGuard .add t x y (.int .u8 ((b.toNat : Nat) : Int)) (.int .u8 1)).run P w = .ok () w := rfl
  rw [h1] at key
  unfold execOp
  simp only [ho, hx, hy]
  simp only [Sem.run_bind, Sem.run_pure, hg, Result.andThen_ok, key]
theorem made_row (k : Nat) : madeCells #[Value.int .u8 0] k = (b8s (List.replicate k 0)).toArray := by
  unfold madeCells
  apply Array.ext
  · simp [b8s]
  · intro i h1 h2
    simp [b8s, Nat.mod_one]
theorem make8 (t e : TypeId) (x y : Operand) (ho : o.op = .makeSlice t x y) (ht : P.underlying t = some (.slice e)) (hinfo : (P.info? e).map (fun i => (i.zero, i.size, i.bytes)) = some (some (.int .u8 0), 1, 1)) (k : Nat) (hk : k ≤ 2000000) (hx : a.eval x = .int .i64 ((k : Nat) : Int)) (hy : a.eval y = .int .i64 ((k : Nat) : Int)) :
    ∃ v w1, (execOp a.eval o).run P w = .ok (.value v) w1 ∧ v = .slice (some ⟨w.heap.size, 0, none⟩) k k ∧ w1.heap[w.heap.size]? = some (.cells (b8s (List.replicate k 0)).toArray e (0, 0)) ∧ Chg [] w w1 ∧ w.heap.size < w1.heap.size := by
  obtain ⟨i, hi, hs⟩ := Option.map_eq_some_iff.1 hinfo
  simp only [Prod.mk.injEq] at hs
  have h := run_make (P := P) w t e i (.int .u8 0) ht hi hs.1 .i64 .i64 ((k : Nat) : Int) ((k : Nat) : Int) (by omega) (by omega) (by rw [hs.2.2]; omega) (by omega)
  rw [hs.2.1, Int.toNat_natCast, Nat.mul_one, show (Value.int .u8 0).cells = #[.int .u8 0] from rfl, made_row] at h
  refine ⟨_, _, ?_, rfl, heap_alloc_new w _, Chg.alloc w _, by simp⟩
  unfold execOp
  simp only [ho, hx, hy, Sem.run_bind, h, Result.andThen_ok, Sem.run_pure]
theorem byt_chgp {S : List Nat} {A : Option Addr} {n : Nat} {l : List UInt8} (h : Byt w A n l) (c : Chg S w w') (ho : ∀ g off, A = some ⟨g, off, none⟩ → 0 < n → g < w.heap.size → Off g S) : Byt w' A n l := by
  by_cases hp : 0 < n
  · exact byt_chg h c fun g off e hl => ho g off e hp hl
  · exact ⟨h.1, fun h1 => absurd h1 hp⟩
theorem byt_lt {A : Option Addr} {n : Nat} {l : List UInt8} (h : Byt w A n l) : ∀ q off, A = some ⟨q, off, none⟩ → 0 < n → q < w.heap.size := by
  intro q off e hn
  obtain ⟨g, off', e', hc⟩ := h.2 hn
  rw [e] at e'
  cases e'
  exact World.block_lt_of_cell? w ⟨q, off + 0, none⟩ (hc 0 hn)
end
section
variable {e T : TypeId} {w w' : World} {g : Nat} {d : Dk} {A0 : Option Addr} {n0 c0 : Nat} {A1 : Option Addr} {n1 c1 : Nat}
theorem Ref.self : g ∈ g :: (ablk A0 ++ ablk A1) := by simp
theorem Ref.re (h : Ref e T w g d A0 n0 c0 A1 n1 c1) (c : Chg [g] w w') {x y : Fil} (hx : x.b = d.x.b) (hy : y.b = d.y.b) (hp : w'.heap[g]? = some (.cells #[.slice A0 n0 c0, .slice A1 n1 c1, .int .i64 ((x.n : Nat) : Int), .int .i64 ((y.n : Nat) : Int)] T (0, 0))) : Ref e T w' g ⟨x, y⟩ A0 n0 c0 A1 n1 c1 := by
  have hsz := c.size
  refine ⟨hp, ?_, ?_, h.nc0, h.nc1, h.nil0, h.nil1, fun q off eq => by have := h.at0 q off eq; omega, fun q off eq => by have := h.at1 q off eq; omega, h.mid0, h.mid1⟩
  · show Byt w' A0 n0 x.b
    rw [hx]
    exact byt_chg h.b0 c fun q off eq hl => ⟨by have := h.at0 q off eq; omega, trivial⟩
  · show Byt w' A1 n1 y.b
    rw [hy]
    exact byt_chg h.b1 c fun q off eq hl => ⟨by have := h.at1 q off eq; omega, trivial⟩
theorem Ref.clear0 (h : Ref e T w g d A0 n0 c0 A1 n1 c1) (c : Chg [g] w w') (hp : w'.heap[g]? = some (.cells #[.slice none 0 0, .slice A1 n1 c1, .int .i64 0, .int .i64 ((d.y.n : Nat) : Int)] T (0, 0))) : Ref e T w' g (d.clear 0) none 0 0 A1 n1 c1 := by
  have hsz := c.size
  exact ⟨hp, Byt.nil _ _, byt_chg h.b1 c fun q off eq hl => ⟨by have := h.at1 q off eq; omega, trivial⟩, Nat.le_refl _, h.nc1, fun _ => rfl, h.nil1, fun q off eq => (by cases eq), fun q off eq => (by have := h.at1 q off eq; omega), fun a ha => (by cases ha), h.mid1⟩
theorem Ref.clear1 (h : Ref e T w g d A0 n0 c0 A1 n1 c1) (c : Chg [g] w w') (hp : w'.heap[g]? = some (.cells #[.slice A0 n0 c0, .slice none 0 0, .int .i64 ((d.x.n : Nat) : Int), .int .i64 0] T (0, 0))) : Ref e T w' g (d.clear 1) A0 n0 c0 none 0 0 := by
  have hsz := c.size
  exact ⟨hp, byt_chg h.b0 c fun q off eq hl => ⟨by have := h.at0 q off eq; omega, trivial⟩, Byt.nil _ _, h.nc0, Nat.le_refl _, h.nil0, fun _ => rfl, fun q off eq => (by have := h.at0 q off eq; omega), fun q off eq => (by cases eq), h.mid0, fun a ha => (by cases ha)⟩
end
end Mur
