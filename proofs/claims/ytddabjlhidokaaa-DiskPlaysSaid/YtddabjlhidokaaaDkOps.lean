/- The disk's laws' ops, as they lie. No program in sight. -/
import Derived.Test.YtddabjlhidokaaaWkS
namespace Mur
open Go Go.RowKit Wk
/-- An op: what it is, its file, its bytes, what a crash keeps. -/
structure Dop where
  kd : Int
  f : Int
  A : Option Addr
  m : Nat
  c : Nat
  b : List UInt8
  k0 : Int
  k1 : Int
def Dop.cells (x : Dop) : List Value := [.int .i64 x.kd, .int .i64 x.f, .slice x.A x.m x.c, .int .i64 x.k0, .int .i64 x.k1]
structure Dop.Ok (w : World) (x : Dop) : Prop where
  byt : Byt w x.A x.m x.b
  nc : x.m ≤ x.c
  cm : x.c ≤ 9223372036854775807
  nil : x.A = none → x.c = 0
def Dops (w : World) (A : Option Addr) (n : Nat) (L : List Dop) : Prop :=
  L.length = n ∧ (∀ x ∈ L, x.Ok w) ∧ (0 < n → ∃ g off, A = some ⟨g, off, none⟩ ∧ ∀ i x, L[i]? = some x → w.rangeAt g (off + i * 5) x.cells)
theorem Dops.at {w : World} {A : Option Addr} {n : Nat} {L : List Dop} (h : Dops w A n L) {k : Nat} (hk : k < n) : ∃ g off kd f B mb cb bs k0 k1, A = some ⟨g, off, none⟩ ∧ g < w.heap.size ∧ w.rangeAt g (off + k * 5) [.int .i64 kd, .int .i64 f, .slice B mb cb, .int .i64 k0, .int .i64 k1] ∧ Byt w B mb bs ∧ mb ≤ cb ∧ cb ≤ 9223372036854775807 ∧ (B = none → cb = 0) := by
  obtain ⟨h1, h2, h3⟩ := h
  obtain ⟨g, off, rfl, hc⟩ := h3 (by omega)
  obtain ⟨x, hx⟩ : ∃ x, L[k]? = some x := ⟨_, List.getElem?_eq_getElem (by omega)⟩
  have hok := h2 x (List.mem_of_getElem? hx)
  have q := hc k x hx
  have hg : g < w.heap.size := World.block_lt_of_cell? w ⟨g, off + k * 5 + 0, none⟩ (q 0 (.int .i64 x.kd) rfl)
  exact ⟨g, off, x.kd, x.f, x.A, x.m, x.c, x.b, x.k0, x.k1, rfl, hg, q, hok.byt, hok.nc, hok.cm, hok.nil⟩
theorem Dops.atW {w : World} {A : Option Addr} {n : Nat} {L : List Dop} (h : Dops w A n L) (hbig : ∀ x ∈ L, x.c ≤ 140737488351232) {k : Nat} (hk : k < n) : ∃ g off kd f B mb cb bs k0 k1, A = some ⟨g, off, none⟩ ∧ g < w.heap.size ∧ w.rangeAt g (off + k * 5) [.int .i64 kd, .int .i64 f, .slice B mb cb, .int .i64 k0, .int .i64 k1] ∧ Byt w B mb bs ∧ mb ≤ cb ∧ cb ≤ 9223372036854775807 ∧ (B = none → cb = 0) ∧ cb ≤ 140737488351232 := by
  obtain ⟨h1, h2, h3⟩ := h
  obtain ⟨g, off, rfl, hc⟩ := h3 (by omega)
  obtain ⟨x, hx⟩ : ∃ x, L[k]? = some x := ⟨_, List.getElem?_eq_getElem (by omega)⟩
  have hok := h2 x (List.mem_of_getElem? hx)
  have q := hc k x hx
  have hg : g < w.heap.size := World.block_lt_of_cell? w ⟨g, off + k * 5 + 0, none⟩ (q 0 (.int .i64 x.kd) rfl)
  exact ⟨g, off, x.kd, x.f, x.A, x.m, x.c, x.b, x.k0, x.k1, rfl, hg, q, hok.byt, hok.nc, hok.cm, hok.nil, hbig x (List.mem_of_getElem? hx)⟩
end Mur
namespace Mur
theorem put_keep0 (x y z : Fil) : (Dk.mk x y).put 0 z = ⟨z, y⟩ := rfl
theorem put_keep1 (x y z : Fil) : (Dk.mk x y).put 1 z = ⟨x, z⟩ := rfl
theorem app_keep0 (x y : Fil) (b : List UInt8) : ∃ c n, (Dk.mk x y).app 0 b = ⟨⟨c, n⟩, y⟩ := by
  unfold Dk.app
  split
  · exact ⟨x.b, x.n, rfl⟩
  · exact ⟨_, _, rfl⟩
theorem app_keep1 (x y : Fil) (b : List UInt8) : ∃ c n, (Dk.mk x y).app 1 b = ⟨x, ⟨c, n⟩⟩ := by
  unfold Dk.app
  split
  · exact ⟨y.b, y.n, rfl⟩
  · exact ⟨_, _, rfl⟩
end Mur
