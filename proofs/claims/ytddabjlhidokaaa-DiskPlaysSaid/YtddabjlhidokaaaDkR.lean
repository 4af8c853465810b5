/- The document's disk, as it lies. No program in sight. -/
import Derived.Test.YtddabjlhidokaaaDkTwo
import Derived.Test.YtddabjlhidokaaaOwn8
namespace Mur
open Go Go.RowKit Wk
def ablk (A : Option Addr) : List Nat := match A with
  | some a => [a.block]
  | none => []
structure Ref (e T : TypeId) (w : World) (g : Nat) (d : Dk) (A0 : Option Addr) (n0 c0 : Nat) (A1 : Option Addr) (n1 c1 : Nat) : Prop where
  hp : w.heap[g]? = some (.cells #[.slice A0 n0 c0, .slice A1 n1 c1, .int .i64 ((d.x.n : Nat) : Int), .int .i64 ((d.y.n : Nat) : Int)] T (0, 0))
  b0 : Byt w A0 n0 d.x.b
  b1 : Byt w A1 n1 d.y.b
  nc0 : n0 ≤ c0
  nc1 : n1 ≤ c1
  nil0 : A0 = none → c0 = 0
  nil1 : A1 = none → c1 = 0
  at0 : ∀ q off, A0 = some ⟨q, off, none⟩ → g < q ∧ q < w.heap.size
  at1 : ∀ q off, A1 = some ⟨q, off, none⟩ → g < q ∧ q < w.heap.size
  mid0 : ∀ a, A0 = some a → a.spot = none
  mid1 : ∀ a, A1 = some a → a.spot = none
/-- The document's disk at g; G: its blocks. -/
structure RefF (e T : TypeId) (w : World) (g : Nat) (d : Dk) (G : List Nat) : Prop where
  out : ∃ A0 n0 c0 A1 n1 c1, Ref e T w g d A0 n0 c0 A1 n1 c1 ∧ G = g :: (ablk A0 ++ ablk A1)
section
variable {e T : TypeId} {w w' : World} {g : Nat} {d : Dk} {G : List Nat}
theorem Ref.mem {A0 : Option Addr} {n0 c0 : Nat} {A1 : Option Addr} {n1 c1 : Nat} (h : Ref e T w g d A0 n0 c0 A1 n1 c1) : ∀ s ∈ g :: (ablk A0 ++ ablk A1), g ≤ s ∧ s < w.heap.size := by
  intro s hs
  have hlt := (Array.getElem?_eq_some_iff.1 h.hp).1
  rcases List.mem_cons.1 hs with rfl | hs
  · exact ⟨Nat.le_refl _, hlt⟩
  · rcases List.mem_append.1 hs with hs | hs
    · rcases A0 with _ | ⟨q, off, sp⟩
      · cases hs
      · obtain rfl : s = q := by simpa [ablk] using hs
        obtain rfl : sp = none := h.mid0 _ rfl
        have := h.at0 _ _ rfl
        omega
    · rcases A1 with _ | ⟨q, off, sp⟩
      · cases hs
      · obtain rfl : s = q := by simpa [ablk] using hs
        obtain rfl : sp = none := h.mid1 _ rfl
        have := h.at1 _ _ rfl
        omega
theorem RefF.mem (h : RefF e T w g d G) : ∀ s ∈ G, g ≤ s ∧ s < w.heap.size := by
  obtain ⟨_, _, _, _, _, _, q, rfl⟩ := h.out
  exact q.mem
theorem RefF.lt (h : RefF e T w g d G) : g < w.heap.size := by
  obtain ⟨_, _, _, _, _, _, q, rfl⟩ := h.out
  exact (Array.getElem?_eq_some_iff.1 q.hp).1
theorem Ref.chg {S : List Nat} {A0 : Option Addr} {n0 c0 : Nat} {A1 : Option Addr} {n1 c1 : Nat} (h : Ref e T w g d A0 n0 c0 A1 n1 c1) (c : Chg S w w') (hs : ∀ s ∈ g :: (ablk A0 ++ ablk A1), s < w.heap.size → Off s S) : Ref e T w' g d A0 n0 c0 A1 n1 c1 := by
  have hlt := (Array.getElem?_eq_some_iff.1 h.hp).1
  have hsz := c.size
  exact ⟨c.hp h.hp (hs g (by simp) hlt), byt_chg h.b0 c fun q off eq hl => hs q (by subst eq; simp [ablk]) hl, byt_chg h.b1 c fun q off eq hl => hs q (by subst eq; simp [ablk]) hl, h.nc0, h.nc1, h.nil0, h.nil1,
    fun q off eq => by have := h.at0 q off eq; omega, fun q off eq => by have := h.at1 q off eq; omega, h.mid0, h.mid1⟩
theorem RefF.chg {S : List Nat} (h : RefF e T w g d G) (c : Chg S w w') (hs : ∀ s ∈ G, s < w.heap.size → Off s S) : RefF e T w' g d G := by
  obtain ⟨_, _, _, _, _, _, q, rfl⟩ := h.out
  exact ⟨_, _, _, _, _, _, q.chg c hs, rfl⟩
theorem ablk_own {w : World} {base e n c : Nat} {A : Option Addr} {l : List UInt8} (h : Own8 w base e A n c l) : (∀ s ∈ ablk A, base ≤ s ∧ s < w.heap.size) ∧ ∀ a, A = some a → a.spot = none := by
  rcases h.own.2 with ⟨e0, _⟩ | ⟨g, cap, cur, e0, hb, hg, _⟩
  · injection e0 with e1
    subst e1
    exact ⟨fun s hs => (by cases hs), fun a ha => (by cases ha)⟩
  · injection e0 with e1
    subst e1
    refine ⟨fun s hs => ?_, fun a ha => (by cases ha; rfl)⟩
    obtain rfl : s = g := by simpa [ablk] using hs
    exact ⟨hb, (Array.getElem?_eq_some_iff.1 hg).1⟩
theorem ref_zero (h : w.heap[g]? = some (.cells #[.slice none 0 0, .slice none 0 0, .int .i64 0, .int .i64 0] T (0, 0))) : RefF e T w g Dk.new [g] :=
  ⟨none, 0, 0, none, 0, 0, ⟨h, Byt.nil _ _, Byt.nil _ _, Nat.le_refl _, Nat.le_refl _, fun _ => rfl, fun _ => rfl, fun q off eq => (by cases eq), fun q off eq => (by cases eq), fun a ha => (by cases ha), fun a ha => (by cases ha)⟩, rfl⟩
/-- One of the slices anew. -/
theorem Ref.set0 {A0 : Option Addr} {n0 c0 : Nat} {A1 : Option Addr} {n1 c1 : Nat} (h : Ref e T w g d A0 n0 c0 A1 n1 c1) (z : Fil) {A : Option Addr} {n c base : Nat} (c1_ : Chg [g] w w') (hp : w'.heap[g]? = some (.cells #[.slice A n c, .slice A1 n1 c1, .int .i64 ((z.n : Nat) : Int), .int .i64 ((d.y.n : Nat) : Int)] T (0, 0)))
    (o : Own8 w' base e A n c z.b) (hb : w.heap.size ≤ base) : RefF e T w' g ⟨z, d.y⟩ (g :: (ablk A ++ ablk A1)) ∧ NewOr w.heap.size (g :: (ablk A0 ++ ablk A1)) (g :: (ablk A ++ ablk A1)) := by
  have hlt := (Array.getElem?_eq_some_iff.1 h.hp).1
  have hsz := c1_.size
  have ho := ablk_own o
  refine ⟨⟨_, _, _, _, _, _, ⟨hp, o.byt, byt_chg h.b1 c1_ fun q off eq hl => ⟨by have := h.at1 q off eq; omega, trivial⟩, o.nc, h.nc1, o.nil, h.nil1, fun q off eq => by have := o.at_ q off eq; omega, fun q off eq => by have := h.at1 q off eq; omega, ho.2, h.mid1⟩, rfl⟩, ?_⟩
  refine newOr_iff.2 fun t ht => ?_
  rcases List.mem_cons.1 ht with rfl | ht
  · exact .inl (by simp)
  · rcases List.mem_append.1 ht with ht | ht
    · exact .inr (by have := ho.1 t ht; omega)
    · exact .inl (by simp [ht])
theorem Ref.set1 {A0 : Option Addr} {n0 c0 : Nat} {A1 : Option Addr} {n1 c1 : Nat} (h : Ref e T w g d A0 n0 c0 A1 n1 c1) (z : Fil) {A : Option Addr} {n c base : Nat} (c1_ : Chg [g] w w') (hp : w'.heap[g]? = some (.cells #[.slice A0 n0 c0, .slice A n c, .int .i64 ((d.x.n : Nat) : Int), .int .i64 ((z.n : Nat) : Int)] T (0, 0)))
    (o : Own8 w' base e A n c z.b) (hb : w.heap.size ≤ base) : RefF e T w' g ⟨d.x, z⟩ (g :: (ablk A0 ++ ablk A)) ∧ NewOr w.heap.size (g :: (ablk A0 ++ ablk A1)) (g :: (ablk A0 ++ ablk A)) := by
  have hlt := (Array.getElem?_eq_some_iff.1 h.hp).1
  have hsz := c1_.size
  have ho := ablk_own o
  refine ⟨⟨_, _, _, _, _, _, ⟨hp, byt_chg h.b0 c1_ fun q off eq hl => ⟨by have := h.at0 q off eq; omega, trivial⟩, o.byt, h.nc0, o.nc, h.nil0, o.nil, fun q off eq => by have := h.at0 q off eq; omega, fun q off eq => by have := o.at_ q off eq; omega, h.mid0, ho.2⟩, rfl⟩, ?_⟩
  refine newOr_iff.2 fun t ht => ?_
  rcases List.mem_cons.1 ht with rfl | ht
  · exact .inl (by simp)
  · rcases List.mem_append.1 ht with ht | ht
    · exact .inl (by simp [ht])
    · exact .inr (by have := ho.1 t ht; omega)
end
end Mur
namespace Mur
theorem left_take {b : List UInt8} {n nl : Nat} {k : Int} (h : (⟨b, n⟩ : Fil).left k = nl) : (⟨b, n⟩ : Fil).crash k = ⟨b.take nl, nl⟩ := by
  subst h
  rfl
theorem take_step {b : List UInt8} {i : Nat} (h : i < b.length) : b.take i ++ [b.getD i 0] = b.take (i + 1) := by
  rw [List.take_succ_eq_append_getElem h]
  simp [List.getD_eq_getElem?_getD, h]
end Mur
