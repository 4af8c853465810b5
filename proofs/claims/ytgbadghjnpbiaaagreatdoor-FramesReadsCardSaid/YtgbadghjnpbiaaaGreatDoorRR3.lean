/- What the row rests on, part 3. -/
import Derived.Lib.SlBytesConst
import Derived.Laws.Strings
import Derived.Laws.CopyRow
import Derived.Lib.AppendZerosOnto
import Derived.Laws.Entries
import Derived.Test.YtgbadghjnpbiaaaGreatDoorProg
import Derived.WalkKit
import Derived.WalkLawsBesides
import Derived.WalkSpells
import Derived.Deep.QuietTactic
import Derived.BigQuiet
import Derived.Laws.CopyOwn
import Derived.Test.YtgbadghjnpbiaaaGreatDoorRR1
import Derived.Test.YtgbadghjnpbiaaaGreatDoorRR2
namespace Mur
open Go Go.RowKit Wk
structure Fil where
 b : List UInt8
 n : Nat
structure Dk where
 x : Fil
 y : Fil
def Fil.ok (z : Fil) : Prop := z.n ≤ z.b.length ∧ z.b.length ≤ 1048576
def Dk.fil (d : Dk) (f : Int) : Fil := if f = 0 then d.x else d.y
def Dk.put (d : Dk) (f : Int) (z : Fil) : Dk := if f = 0 then ⟨z, d.y⟩ else if f = 1 then ⟨d.x, z⟩ else d
def hasF (f : Int) : Prop := f = 0 ∨ f = 1
instance (f : Int) : Decidable (hasF f) := by unfold hasF; infer_instance
def Dk.bytes (d : Dk) (f : Int) : List UInt8 := if hasF f then (d.fil f).b else []
structure Dsk (e T : TypeId) (w : World) (g : Nat) (d : Dk) (vx vy : Value) : Prop where
 hp : w.heap[g]? = some (.cells #[vx, .int .i64 (d.x.n : Int), vy, .int .i64 (d.y.n : Int)] T (0, 0))
 ox : w.ownsRow (g + 1) e 1 vx d.x.b.length (b8s d.x.b)
 oy : w.ownsRow (g + 1) e 1 vy d.y.b.length (b8s d.y.b)
 ne : ∀ k, vx.ownBlock = some k → vy.ownBlock ≠ some k
 kx : d.x.ok
 ky : d.y.ok
def foot (g : Nat) (vx vy : Value) : List Nat := g :: (blk vx ++ blk vy)
theorem mem_blk_iff {v : Value} {k : Nat} : k ∈ blk v ↔ v.ownBlock = some k := by
 unfold blk
 split
 ·rename_i h; rw [h]; simp [eq_comm]
 ·rename_i h; rw [h]; simp
theorem newOr_iff {B : Nat} {S : List Nat} : ∀ {T : List Nat}, NewOr B S T ↔ ∀ t ∈ T, t ∈ S ∨ B ≤ t
 | [] => by simp [NewOr]
 | t :: T => by simp [NewOr, newOr_iff (T := T)]
section
variable {e T : TypeId} {w w' : World} {g : Nat} {d : Dk} {vx vy v' : Value}
theorem Dsk.bx (h : Dsk e T w g d vx vy) {k : Nat} (hk : vx.ownBlock = some k) : g < k ∧ k < w.heap.size := by
 refine ⟨?_, (World.ownsRow.lt h.ox k hk).2⟩
 rcases h.ox.2 with ⟨rfl, _⟩ | ⟨g', cap, cur, rfl, hb, _⟩
 ·cases hk
 ·obtain rfl : g' = k := by simpa [Value.ownBlock] using hk
  omega
theorem Dsk.by_ (h : Dsk e T w g d vx vy) {k : Nat} (hk : vy.ownBlock = some k) : g < k ∧ k < w.heap.size := by
 refine ⟨?_, (World.ownsRow.lt h.oy k hk).2⟩
 rcases h.oy.2 with ⟨rfl, _⟩ | ⟨g', cap, cur, rfl, hb, _⟩
 ·cases hk
 ·obtain rfl : g' = k := by simpa [Value.ownBlock] using hk
  omega
theorem Dsk.lt (h : Dsk e T w g d vx vy) : g < w.heap.size := (Array.getElem?_eq_some_iff.1 h.hp).1
theorem Dsk.mem (h : Dsk e T w g d vx vy) : ∀ s ∈ foot g vx vy, g ≤ s ∧ s < w.heap.size := by
 intro s hs
 have := h.lt
 rcases List.mem_cons.1 hs with rfl | hs
 ·exact ⟨Nat.le_refl _, h.lt⟩
 ·rcases List.mem_append.1 hs with hs | hs
  ·have := h.bx (mem_blk_iff.1 hs); omega
  ·have := h.by_ (mem_blk_iff.1 hs); omega
end
structure DskF (e T : TypeId) (w : World) (g : Nat) (d : Dk) (F : List Nat) : Prop where
 out : ∃ vx vy, Dsk e T w g d vx vy ∧ F = foot g vx vy
section
variable {e T : TypeId} {w w' : World} {g : Nat} {d : Dk} {F : List Nat}
theorem DskF.mem (h : DskF e T w g d F) : ∀ s ∈ F, g ≤ s ∧ s < w.heap.size := by
 obtain ⟨vx, vy, q, rfl⟩ := h.out
 exact q.mem
theorem DskF.lt (h : DskF e T w g d F) : g < w.heap.size := by
 obtain ⟨vx, vy, q, rfl⟩ := h.out
 exact q.lt
theorem DskF.ok (h : DskF e T w g d F) : d.x.ok ∧ d.y.ok := by
 obtain ⟨vx, vy, q, rfl⟩ := h.out
 exact ⟨q.kx, q.ky⟩
theorem DskF.chg {S : List Nat} (h : DskF e T w g d F) (c : Chg S w w') (hs : ∀ s ∈ F, s < w.heap.size → Off s S) : DskF e T w' g d F := by
 obtain ⟨vx, vy, q, rfl⟩ := h.out
 refine ⟨vx, vy, ⟨c.hp q.hp (hs g (by simp [foot]) q.lt), own_chg q.ox c fun k hk _ hl => hs k ?_ hl, own_chg q.oy c fun k hk _ hl => hs k ?_ hl, q.ne, q.kx, q.ky⟩, rfl⟩
 ·simp [foot, mem_blk_iff.2 hk]
 ·simp [foot, mem_blk_iff.2 hk]
end
theorem own_empty {w : World} {base e g : Nat} (h : w.heap[g]? = some (.cells #[] e (0, 0))) (hb : base ≤ g) : w.ownsRow base e 1 (.slice (some ⟨g, 0, none⟩) 0 0) 0 (b8s []) := ⟨rfl, .inr ⟨g, 0, #[], rfl, hb, h, Nat.le_refl _, by unfold maxLen; omega, rfl, rfl⟩⟩
theorem own_nil (w : World) (base e : Nat) : w.ownsRow base e 1 (.slice none 0 0) 0 (b8s []) := ⟨rfl, .inl ⟨rfl, rfl⟩⟩
def str (l : List UInt8) : ByteArray := ⟨l.toArray⟩
section
variable {P : Program} {w : World} {a : Act} {o : Oper}
theorem run_str (s t : TypeId) (x : Operand) (e : TypeId) (ho : o.op = .convert s t x) (hs : P.underlying s = some (.slice e)) (he : P.underlying e = some (.int .u8)) (ht : P.underlying t = some .string) (A : Option Addr) (n c : Nat) (l : List UInt8)
  (hx : a.eval x = .slice A n c) (hb : Byt w A n l) : (execOp a.eval o).run P w = .ok (.value (.string (str l))) w := by
 have key : (convert s t (.slice A n c)).run P w = .ok (.string (str l)) w := by
  rcases A with _ | ad
  ·have h0 : l = [] := by
    rcases l with _ | ⟨y, l⟩
    ·rfl
    ·obtain ⟨g, off, h, _⟩ := hb.2 (by have := hb.1; simp at this; omega)
     cases h
   subst h0
   exact run_convert_bytes_nil w s e hs he n c t ht
  ·obtain ⟨g, off, sp⟩ := ad
   have hcell : ∀ j (hj : j < l.length), w.cell? ((⟨g, off, sp⟩ : Addr).add j) = some (.int .u8 (l[j].toNat : Int)) := by
    intro j hj
    obtain ⟨g', off', h', hc⟩ := hb.2 (by have := hb.1; omega)
    injection h' with h'
    injection h' with h1 h2 h3
    subst h1 h2 h3
    rw [Addr.add_mid, hc j (by have := hb.1; omega)]
    simp [List.getD_eq_getElem?_getD, hj]
   have := run_convert_bytes_back (P := P) w s t e ⟨g, off, sp⟩ c l hs he ht hcell
   rw [hb.1] at this
   exact this
 unfold execOp
 simp only [ho, hx, Sem.run_bind, key, Result.andThen_ok, Sem.run_pure]
theorem run_mark (t : TypeId) (x : Operand) (e : TypeId) (ho : o.op = .convert t t x) (ht : P.underlying t = some (.slice e)) (he : P.underlying e = some (.int .u8)) (g n c : Nat) (cs : Array Value) (hx : a.eval x = .slice (some ⟨g, 0, none⟩) n c)
  (hg : w.heap[g]? = some (.cells cs e (0, 0))) : ∃ v1 w1, (execOp a.eval o).run P w = .ok (.value v1) w1 ∧ v1 = .slice (some ⟨g, 0, none⟩) n c ∧ w1.heap[g]? = some (.cells cs e (cs.size, cs.size + 1)) ∧ Chg [g] w w1 := by
 have hlt := (Array.getElem?_eq_some_iff.1 hg).1
 have hsh : w.shape? g = some (e, cs.size) := by
  unfold World.shape?
  rw [hg]
 have key : (convert t t (.slice (some ⟨g, 0, none⟩) n c)).run P w = .ok (.slice (some ⟨g, 0, none⟩) n c) (w.freeze ⟨g, cs.size, none⟩ 1) := by
  simp [convert, run_underlying ht, run_underlying he, markStringish, hsh]
 refine ⟨_, w.freeze ⟨g, cs.size, none⟩ 1, ?_, rfl, ?_, ?_⟩
 ·unfold execOp
  simp only [ho, hx, Sem.run_bind, key, Result.andThen_ok, Sem.run_pure]
 ·unfold World.freeze
  rw [if_neg (by decide)]
  show (w.heap.modify g _)[g]? = _
  rw [Array.getElem?_modify]
  simp [hg]
 ·unfold World.freeze
  rw [if_neg (by decide)]
  refine ⟨rfl, rfl, rfl, by simp, fun k hk ho => ?_⟩
  show (w.heap.modify g _)[k]? = _
  rw [Array.getElem?_modify, if_neg (fun h => ho.1 h.symm)]
theorem run_op_cut_to (t : TypeId) (x z : Operand) (ho : o.op = .slice t x none (some z) none) (e : TypeId) (ht : P.underlying t = some (.slice e)) (hsz : (P.info? e).map (·.size) = some 1) (A : Option Addr) (n c h : Nat)
  (hx : a.eval x = .slice A n c) (hz : a.eval z = .int .i64 (h : Int)) (hh : h ≤ n) (hnc : n ≤ c) : (execOp a.eval o).run P w = .ok (.value (.slice (cutA A c 0) h c)) w := by
 unfold execOp
 simp only [ho, hx, hz, Option.map_some, Option.map_none, Sem.run_bind, run_cut_to t e ht hsz A n c h hh hnc, Result.andThen_ok, Sem.run_pure]
theorem byt_to {A : Option Addr} {n c : Nat} {l : List UInt8} (h : Byt w A n l) (k : Nat) (hk : k ≤ n) (hnc : n ≤ c) : Byt w (cutA A c 0) k (l.take k) := by
 have := h.cut 0 k (by omega) hk hnc
 simpa using this
theorem own_le {base base' sz n : Nat} {e : TypeId} {v : Value} {xs : List Value} (h : w.ownsRow base e sz v n xs) (hb : base' ≤ base) : w.ownsRow base' e sz v n xs :=
 ⟨h.1, h.2.elim Or.inl (fun ⟨g, cap, cur, hv, hg, r⟩ => Or.inr ⟨g, cap, cur, hv, Nat.le_trans hb hg, r⟩)⟩
theorem byt_row {g : Nat} {t : TypeId} {fr : Nat × Nat} (l : List UInt8) (h : w.heap[g]? = some (.cells (b8s l).toArray t fr)) : Byt w (some ⟨g, 0, none⟩) l.length l := ⟨rfl, fun _ => ⟨g, 0, rfl, fun j hj => by rw [Nat.zero_add]; exact cell_b8s h hj⟩⟩
theorem byt_sl {A : Option Addr} {n : Nat} {l : List UInt8} (h : Byt w A n l) : Sl w A n 1 (b8s l) := ⟨by rw [b8s_length, h.1, Nat.mul_one], fun hn => by
 have hp : 0 < n := by
  rcases l with _ | ⟨y, l⟩
  ·exact absurd rfl hn
  ·have := h.1; simp at this; omega
 obtain ⟨g, off, e, hc⟩ := h.2 hp
 refine ⟨g, off, e, fun j u hu => ?_⟩
 have hj : j < l.length := by
  have := (List.getElem?_eq_some_iff.1 hu).1
  simpa [b8s_length] using this
 rw [b8s_get l j hj] at hu
 injection hu with hu
 subst hu
 exact hc j (by have := h.1; omega)⟩
theorem byt_chg {S : List Nat} {w' : World} {A : Option Addr} {n : Nat} {l : List UInt8} (h : Byt w A n l) (c : Chg S w w') (ho : ∀ g off, A = some ⟨g, off, none⟩ → g < w.heap.size → Off g S) : Byt w' A n l := ⟨h.1, fun hp => by
 obtain ⟨g, off, e, hc⟩ := h.2 hp
 have hlt : g < w.heap.size := World.block_lt_of_cell? w ⟨g, off + 0, none⟩ (hc 0 hp)
 exact ⟨g, off, e, fun j hj => c.cell (hc j hj) (ho g off e hlt)⟩⟩
end
end Mur
namespace Mur
open Go Go.RowKit Wk
section
set_option linter.unusedSimpArgs false
variable {P : Program} {w : World} {a : Act} {o : Oper}
theorem str_toList (l : List UInt8) : (str l).toList = l := by rw [Go.ByteArray.toList_eq]; simp [str]
theorem streq (t ty : TypeId) (x y : Operand) (ho : o.op = .binOp .eql t x y ty) (l r : List UInt8) (hx : a.eval x = .string (str l)) (hy : a.eval y = .string (str r)) : (execOp a.eval o).run P w = .ok (.value (.bool (decide (l = r)))) w := by
 unfold execOp
 simp only [ho, hx, hy]
 simp only [eqGuard, binOp_string_eql, binOp_string_neq, Sem.run_bind, Sem.run_pure, Result.andThen_ok, str_toList]
 by_cases h : l = r <;> simp [h]
theorem strne (t ty : TypeId) (x y : Operand) (ho : o.op = .binOp .neq t x y ty) (l r : List UInt8) (hx : a.eval x = .string (str l)) (hy : a.eval y = .string (str r)) : (execOp a.eval o).run P w = .ok (.value (.bool (decide (l ≠ r)))) w := by
 unfold execOp
 simp only [ho, hx, hy]
 simp only [eqGuard, binOp_string_eql, binOp_string_neq, Sem.run_bind, Sem.run_pure, Result.andThen_ok, str_toList]
 by_cases h : l = r <;> simp [h]
end
end Mur
namespace Mur
open Go Go.RowKit Wk
theorem b8s_set (l : List UInt8) (i : Nat) (x : UInt8) : (b8s l).toArray.setIfInBounds i (.int .u8 (x.toNat : Int)) = (b8s (l.set i x)).toArray := by
 rw [List.setIfInBounds_toArray]
 congr 1
 simp [b8s, List.map_set]
section
variable {P : Program} {w : World} {a : Act} {o : Oper}
theorem blk_cell {g : Nat} {t : TypeId} {fr : Nat × Nat} (l : List UInt8) (h : w.heap[g]? = some (.cells (b8s l).toArray t fr)) (j : Nat) (hj : j < l.length) : w.cell? ⟨g, 0 + j * 1, none⟩ = some (.int .u8 (((l.getD j 0).toNat : Nat) : Int)) := by
 rw [Nat.zero_add, Nat.mul_one]
 exact cell_b8s h hj
theorem byt_cell {g off n : Nat} {l : List UInt8} (h : Byt w (some ⟨g, off, none⟩) n l) (j : Nat) (hj : j < n) : w.cell? ⟨g, off + j * 1, none⟩ = some (.int .u8 (((l.getD j 0).toNat : Nat) : Int)) := by
 obtain ⟨g', off', e, hc⟩ := h.2 (by omega)
 injection e with e
 injection e with e1 e2
 subst e1 e2
 rw [Nat.mul_one]
 exact hc j hj
theorem byt_blk {g n : Nat} {t : TypeId} {fr : Nat × Nat} (l : List UInt8) (hl : l.length = n) (h : w.heap[g]? = some (.cells (b8s l).toArray t fr)) : Byt w (some ⟨g, 0, none⟩) n l := hl ▸ byt_row l h
theorem storeAll (ty : TypeId) (x y : Operand) (ho : o.op = .store ty x y) (g : Nat) (hx : a.eval x = .pointer (some ⟨g, 0, none⟩)) (l : List UInt8) (n : Nat) (hl : l.length = n) (hy : a.eval y = .agg (b8s l).toArray) (hi : (P.info? ty).map (·.size) = some n)
  (t : TypeId) (cs : Array Value) (hg : w.heap[g]? = some (.cells cs t (0, 0))) (hn : cs.size = n) :
  ∃ w', (execOp a.eval o).run P w = .ok .skip w' ∧ w'.heap[g]? = some (.cells (b8s l).toArray t (0, 0)) ∧ Chg [g] w w' := by
 obtain ⟨w', h1, h2, h3⟩ := storeR (P := P) ty x y ho g 0 hx (b8s l) hy (by rw [hi, b8s_length, hl]) (b8s_one l) t cs.toList (by simpa using hg) (by rw [b8s_length, hl, Array.length_toList, hn]; omega)
 refine ⟨w', h1, ?_, h3⟩
 rw [h2]
 congr 2
 have hdrop : cs.toList.drop (0 + (b8s l).length) = [] := List.drop_of_length_le (by rw [b8s_length, hl, Array.length_toList, hn]; omega)
 unfold splice
 rw [hdrop]
 simp
theorem loadAll (ty : TypeId) (x : Operand) (ho : o.op = .load ty x) (d : TypeDesc) (hu : P.underlying ty = some d) (hd : d.isRow = true) (g : Nat) (hx : a.eval x = .pointer (some ⟨g, 0, none⟩)) (l : List UInt8) (n : Nat) (hl : l.length = n)
  (hi : (P.info? ty).map (·.size) = some n) (t : TypeId) (fr : Nat × Nat) (hg : w.heap[g]? = some (.cells (b8s l).toArray t fr)) : (execOp a.eval o).run P w = .ok (.value (.agg (b8s l).toArray)) w :=
 loadR ty x ho d hu hd g 0 hx (b8s l) (by rw [hi, b8s_length, hl]) (range_row hg)
theorem arr_slice (t e : TypeId) (x : Operand) (n : Nat) (ho : o.op = .slice t x none none none) (ht : P.underlying t = some (.array n e)) (hsz : (P.info? e).map (·.size) = some 1) (g : Nat) (hx : a.eval x = .pointer (some ⟨g, 0, none⟩)) :
  (execOp a.eval o).run P w = .ok (.value (.slice (some ⟨g, 0, none⟩) n n)) w := by
 obtain ⟨i, hi, hs⟩ := Option.map_eq_some_iff.1 hsz
 unfold execOp
 simp only [ho, hx, Option.map_none]
 have e0 : (⟨g, 0, none⟩ : Addr).add 0 = ⟨g, 0, none⟩ := Addr.add_mid g 0 0
 simp [Instr.sliceAt, Instr.slice, Instr.sureAddr, run_underlying ht, Instr.sliceBounds, Go.sizeOf, typeInfo, hi, e0]
theorem bits_xor_u8 (a b : UInt8) : bits .xor .u8 ((a.toNat : Nat) : Int) ((b.toNat : Nat) : Int) = (((a ^^^ b).toNat : Nat) : Int) := by
 show IntKind.u8.wrap ((BitVec.ofInt 8 ((a.toNat : Nat) : Int) ^^^ BitVec.ofInt 8 ((b.toNat : Nat) : Int)).toNat : Int) = _
 rw [BitVec.ofInt_natCast, BitVec.ofInt_natCast, UInt8.toNat, BitVec.ofNat_toNat, BitVec.setWidth_eq, UInt8.toNat, BitVec.ofNat_toNat, BitVec.setWidth_eq]
 show ((((a ^^^ b).toNat : Nat) : Int)) % 256 = _
 have := (a ^^^ b).toNat_lt
 omega
theorem xor8 (t ty : TypeId) (x y : Operand) (ho : o.op = .binOp .xor t x y ty) (b c : UInt8) (hx : a.eval x = .int .u8 ((b.toNat : Nat) : Int)) (hy : a.eval y = .int .u8 ((c.toNat : Nat) : Int)) : (execOp a.eval o).run P w = .ok (.value (.int .u8 (((b ^^^ c).toNat : Nat) : Int))) w := by
 unfold execOp
 simp only [ho, hx, hy]
 have key : (binOp .xor t (.int .u8 ((b.toNat : Nat) : Int)) (.int .u8 ((c.toNat : Nat) : Int))).run P w = .ok (.int .u8 (bits .xor .u8 ((b.toNat : Nat) : Int) ((c.toNat : Nat) : Int))) w := rfl
 have hg : (eqGuard .xor t x y (.int .u8 ((b.toNat : Nat) : Int)) (.int .u8 ((c.toNat : Nat) : Int))).run P w = .ok () w := rfl
 rw [bits_xor_u8] at key
 simp only [Sem.run_bind, Sem.run_pure, hg, Result.andThen_ok, key]
theorem store8 (ty : TypeId) (x y : Operand) (ho : o.op = .store ty x y) (hi : (P.info? ty).map (·.size) = some 1) (g i : Nat) (hx : a.eval x = .pointer (some ⟨g, 0 + i * 1, none⟩)) (b : UInt8) (hy : a.eval y = .int .u8 ((b.toNat : Nat) : Int))
  (t : TypeId) (l : List UInt8) (hg : w.heap[g]? = some (.cells (b8s l).toArray t (0, 0))) (hlt : i < l.length) :
  ∃ w', (execOp a.eval o).run P w = .ok .skip w' ∧ w'.heap[g]? = some (.cells (b8s (l.set i b)).toArray t (0, 0)) ∧ Chg [g] w w' := by
 rw [Nat.zero_add, Nat.mul_one] at hx
 obtain ⟨w', h1, h2, h3⟩ := store1 (P := P) ty x y ho hi g i hx _ hy rfl t _ hg (by simpa [b8s_length] using hlt)
 exact ⟨w', h1, by rw [h2, b8s_set], h3⟩
theorem copy8 (d s : Operand) (dT sT : TypeId) (ho : o.op = .call { callee := .builtin .copy, args := #[d, s], argTypes := #[dT, sT] }) (e : TypeId) (hu : P.underlying dT = some (.slice e)) (hsz : (P.info? e).map (·.size) = some 1)
  (g D c : Nat) (hd : a.eval d = .slice (some ⟨g, 0, none⟩) D c) (A : Option Addr) (n c2 : Nat) (hs : a.eval s = .slice A n c2) (t : TypeId) (l r : List UInt8) (hg : w.heap[g]? = some (.cells (b8s l).toArray t (0, 0))) (hD : l.length = D) (hb : Byt w A n r) (hn : n ≤ D) (hA : A = none → c2 = 0) :
  ∃ v w', (execOp a.eval o).run P w = .ok (.value v) w' ∧ v = .int .i64 ((n : Nat) : Int) ∧ w'.heap[g]? = some (.cells (b8s (r ++ l.drop n)).toArray t (0, 0)) ∧ Chg [g] w w' := by
 have hrn := hb.1
 rcases A with _ | ad
 ·have h0 : r = [] := by
   rcases r with _ | ⟨y, r⟩
   ·rfl
   ·obtain ⟨g, off, h, _⟩ := hb.2 (by have := hb.1; simp at this; omega)
    cases h
  subst h0
  obtain rfl : n = 0 := by simpa using hrn.symm
  obtain rfl := hA rfl
  refine ⟨_, w, ?_, rfl, by simpa using hg, (Chg.refl w).more (by simp)⟩
  have := run_copy_nil (P := P) w dT sT o.type e ⟨g, 0, none⟩ D c hu (by rw [hsz]; rfl)
  unfold execOp
  simp only [ho, resolve, invoke, builtin, Sem.run_bind, Sem.run_pure, Result.andThen_ok, List.map_toArray, List.map_cons, List.map_nil, hs, hd, this, goInt]
  rfl
 ·have hsrc : ∀ j v, (b8s r)[j]? = some v → w.cell? (ad.add j) = some v := by
   intro j v hv
   have hj : j < r.length := by
    have := (List.getElem?_eq_some_iff.1 hv).1
    simpa [b8s_length] using this
   obtain ⟨g', off, e', hc⟩ := hb.2 (by omega)
   injection e' with e'
   subst e'
   rw [Addr.add_mid]
   rw [b8s_get r j hj] at hv
   injection hv with hv
   subst hv
   exact hc j (by omega)
  have hrun := run_copy_row (P := P) w dT sT o.type e g 0 D c ad n c2 (b8s l).toArray t (b8s r) hu hsz hg (by rw [b8s_length, hrn]; exact (Nat.min_eq_left hn).symm) hsrc (by simp [b8s_length]; omega) (b8s_one r)
  have hb8 : (b8s l).take 0 ++ b8s r ++ (b8s l).drop (0 + (b8s r).length) = b8s (r ++ l.drop n) := by
   rw [b8s_append, b8s_length, hrn]
   simp [b8s, List.map_drop]
  refine ⟨.int .i64 ((n : Nat) : Int), w.setRow g (b8s (r ++ l.drop n)).toArray, ?_, rfl, ?_, ?_⟩
  ·unfold execOp
   simp only [ho, resolve, invoke, builtin, Sem.run_bind, Sem.run_pure, Result.andThen_ok, List.map_toArray, List.map_cons, List.map_nil, hs, hd, hrun, goInt, b8s_length, hrn]
   rw [b8s_length, hrn] at hb8
   rw [hb8]
  ·exact setRow_heap w g _ _ t _ hg
  ·refine ⟨rfl, rfl, rfl, by simp [World.setRow], fun k hk ho => ?_⟩
   exact setRow_other _ _ _ _ (fun h => ho.1 h)
structure Own8 (w : World) (base e : Nat) (A : Option Addr) (n c : Nat) (l : List UInt8) : Prop where
 own : w.ownsRow base e 1 (.slice A n c) n (b8s l)
 nc : n ≤ c
 cm : c ≤ maxLen
 nil : A = none → c = 0
 byt : Byt w A n l
 at_ : ∀ g off, A = some ⟨g, off, none⟩ → base ≤ g ∧ g < w.heap.size
 lt : ∀ k, (Value.slice A n c).ownBlock = some k → base ≤ k ∧ k < w.heap.size
theorem own8 {base e n : Nat} {A : Option Addr} {c : Nat} {l : List UInt8} (h : w.ownsRow base e 1 (.slice A n c) n (b8s l)) : Own8 w base e A n c l := by
 obtain ⟨A1, c1, e1, h1, h2, h3⟩ := own_byt h
 injection e1 with e1 _ e2
 subst e1 e2
 obtain ⟨A2, c2, e3, _, _, h4, _, h5⟩ := own_sl h
 injection e3 with e3 _ e4
 subst e3 e4
 exact ⟨h, h1, h2, h4, h3, h5, World.ownsRow.lt h⟩
theorem append8 (s x : Operand) (t e : TypeId) (ho : o.op = .call { callee := .builtin .append, args := #[s, x], argTypes := #[t, t] }) (ht : P.underlying t = some (.slice e)) (hinfo : (P.info? e).map (fun i => (i.zero, i.size, i.bytes)) = some (some (.int .u8 0), 1, 1))
  (base : Nat) (A0 : Option Addr) (n c0 : Nat) (xs : List UInt8) (A : Option Addr) (m c : Nat) (ys : List UInt8) (hs : a.eval s = .slice A0 n c0) (hx : a.eval x = .slice A m c) (HO : w.ownsRow base e 1 (.slice A0 n c0) n (b8s xs)) (HR : Byt w A m ys) (hA : A = none → c = 0)
  (hbase : base ≤ w.heap.size) (hl : n + m ≤ 140737488355328) (k : Nat) (hk : n + m = k) (zs : List UInt8) (hz : xs ++ ys = zs) :
  ∃ v1 w1, (execOp a.eval o).run P w = .ok (.value v1) w1 ∧ ∃ A1 c1, v1 = .slice A1 k c1 ∧ Own8 w1 base e A1 k c1 zs ∧ Chg (blk (.slice A0 n c0)) w w1 ∧ (∀ q, (Value.slice A1 k c1).ownBlock = some q → (Value.slice A0 n c0).ownBlock = some q ∨ q = w.heap.size) := by
 subst hk hz
 obtain ⟨v1, w1, h1, h2, h3, h4⟩ := append_run (P := P) s x t e ho ht (.int .u8 0) 1 1 hinfo rfl (by omega) base (.slice A0 n c0) n (b8s xs) A m c (b8s ys) hs hx HO (byt_sl HR) hA (b8s_one ys) hbase (by unfold maxLen; omega) (by omega)
 rw [← b8s_append] at h2
 obtain ⟨A1, c1, rfl, _⟩ := own_byt h2
 refine ⟨_, w1, h1, A1, c1, rfl, own8 h2, h3, fun q hq => ?_⟩
 rcases h4 with h4 | h4
 ·exact .inl (h4 ▸ hq)
 ·rw [h4] at hq
  exact .inr (Option.some.inj hq).symm
theorem Own8.chg {w' : World} {base e n c : Nat} {A : Option Addr} {l : List UInt8} {S : List Nat} (h : Own8 w base e A n c l) (ch : Chg S w w') (ho : ∀ g, base ≤ g → g < w.heap.size → Off g S) : Own8 w' base e A n c l :=
 own8 (own_chg h.own ch fun g _ h1 h2 => ho g h1 h2)
theorem own8_empty {base e g : Nat} (h : w.heap[g]? = some (.cells #[] e (0, 0))) (hb : base ≤ g) : Own8 w base e (some ⟨g, 0, none⟩) 0 0 [] := own8 (own_empty h hb)
theorem own8_nil (w : World) (base e : Nat) : Own8 w base e none 0 0 [] := own8 (own_nil w base e)
end
structure Seg where
 A : Option Addr
 n : Nat
 c : Nat
 l : List UInt8
def Seg.v (s : Seg) : Value := .slice s.A s.n s.c
structure SegOk (w : World) (s : Seg) : Prop where
 nc : s.n ≤ s.c
 nil : s.A = none → s.c = 0
 byt : Byt w s.A s.n s.l
 cm : s.c ≤ maxLen
structure Segs (w : World) (A : Option Addr) (n : Nat) (L : List Seg) : Prop where
 len : L.length = n
 ok : ∀ s ∈ L, SegOk w s
 cells : 0 < n → ∃ g off, A = some ⟨g, off, none⟩ ∧ ∀ i s, L[i]? = some s → w.cell? ⟨g, off + i, none⟩ = some s.v
theorem SegOk.chg {w w' : World} {s : Seg} (h : SegOk w s) (c : Chg [] w w') : SegOk w' s := ⟨h.1, h.2, byt_chg h.3 c fun _ _ _ _ => trivial, h.4⟩
theorem Segs.chg {w w' : World} {A : Option Addr} {n : Nat} {L : List Seg} (h : Segs w A n L) (c : Chg [] w w') : Segs w' A n L :=
 ⟨h.1, fun s hs => (h.2 s hs).chg c, fun hn => by
  obtain ⟨g, off, e, hc⟩ := h.3 hn
  exact ⟨g, off, e, fun i s hi => c.cell (hc i s hi) trivial⟩⟩
def flat (L : List Seg) : List UInt8 := L.flatMap (·.l)
theorem flat_take {L : List Seg} {i : Nat} {s : Seg} (h : L[i]? = some s) : flat (L.take (i + 1)) = flat (L.take i) ++ s.l := by
 have hi : i < L.length := (List.getElem?_eq_some_iff.1 h).1
 have he : L[i] = s := (List.getElem?_eq_some_iff.1 h).2
 rw [List.take_succ_eq_append_getElem hi, he]
 simp [flat]
theorem flat_take_le {L : List Seg} (i : Nat) : (flat (L.take i)).length ≤ (flat L).length := by
 have : flat L = flat (L.take i) ++ flat (L.drop i) := by rw [flat, flat, flat, ← List.flatMap_append, List.take_append_drop]
 rw [this, List.length_append]
 omega
theorem flat_all {L : List Seg} {n : Nat} (h : L.length = n) : flat (L.take n) = flat L := by rw [List.take_of_length_le (by omega)]
theorem Segs.at {w : World} {A : Option Addr} {n : Nat} {L : List Seg} (h : Segs w A n L) {k : Nat} (hk : k < n) : ∃ g off As ns cs ls, A = some ⟨g, off, none⟩ ∧ g < w.heap.size ∧ w.cell? ⟨g, off + k * 1, none⟩ = some (.slice As ns cs) ∧ Byt w As ns ls ∧ ns ≤ cs ∧ cs ≤ maxLen ∧ (As = none → cs = 0) ∧
  flat (L.take (k + 1)) = flat (L.take k) ++ ls ∧ (flat (L.take k)).length + ns ≤ (flat L).length := by
 obtain ⟨g, off, rfl, hc⟩ := h.3 (by omega)
 obtain ⟨x, hx⟩ : ∃ x, L[k]? = some x := ⟨_, List.getElem?_eq_getElem (by have := h.1; omega)⟩
 have hok := h.2 x (List.mem_of_getElem? hx)
 have q := hc k x hx
 have hf := flat_take hx
 have hle := flat_take_le (L := L) (k + 1)
 have hl := hok.byt.1
 rw [hf, List.length_append, hl] at hle
 exact ⟨g, off, x.A, x.n, x.c, x.l, rfl, World.block_lt_of_cell? w ⟨g, off + k, none⟩ q, by rw [Nat.mul_one]; exact q, hok.byt, hok.nc, hok.cm, hok.nil, hf, hle⟩
end Mur
namespace Go
open Wk Mur
theorem oA {w w' : World} {S : List Nat} {base e n c : Nat} {A : Option Addr} {l : List UInt8} (h : Own8 w base e A n c l) (ch : Chg S w w') (ho : ∀ g, (Value.slice A n c).ownBlock = some g → base ≤ g → g < w.heap.size → Off g S := by exact fun _ _ _ _ => trivial) : Own8 w' base e A n c l := own8 (own_chg h.own ch ho)
theorem oB {w w' : World} {s : Nat} {base e n c : Nat} {A : Option Addr} {l : List UInt8} (h : Own8 w base e A n c l) (ch : Chg [s] w w') {b z : Nat} (hl : ∀ k, (Value.slice A n c).ownBlock = some k → b ≤ k ∧ k < z) (ho : ∀ k, b ≤ k → k < z → k ≠ s := by intro _ _ _; omega) : Own8 w' base e A n c l := own8 (own_chg h.own ch fun q e _ _ => ⟨ho q (hl q e).1 (hl q e).2, trivial⟩)
section
variable {P : Program} {a : Act} {o : Oper} {w : World}
theorem ap8 {base e n c0 : Nat} {A0 A : Option Addr} {xs ys : List UInt8} (m c : Nat) (HO : w.ownsRow base e 1 (.slice A0 n c0) n (b8s xs)) (HR : Byt w A m ys) (hA : A = none → c = 0) (k : Nat) (zs : List UInt8) {s x : Operand} {t : TypeId} (ho : o.op = .call { callee := .builtin .append, args := #[s, x], argTypes := #[t, t] } := by exact rfl) (ht : P.underlying t = some (.slice e) := by kernel_rfl) (hinfo : (P.info? e).map (fun i => (i.zero, i.size, i.bytes)) = some (some (.int .u8 0), 1, 1) := by kernel_rfl)
  (hs : a.eval s = .slice A0 n c0 := by kernel_rfl) (hx : a.eval x = .slice A m c := by kernel_rfl) (hbase : base ≤ w.heap.size := by omega) (hl : n + m ≤ 140737488355328 := by omega) (hk : n + m = k := by omega) (hz : xs ++ ys = zs := by exact rfl) :
  ∃ v1 w1, (execOp a.eval o).run P w = .ok (.value v1) w1 ∧ ∃ A1 c1, v1 = .slice A1 k c1 ∧ Own8 w1 base e A1 k c1 zs ∧ Chg (blk (.slice A0 n c0)) w w1 ∧ (∀ q, (Value.slice A1 k c1).ownBlock = some q → (Value.slice A0 n c0).ownBlock = some q ∨ q = w.heap.size) := append8 s x t e ho ht hinfo base A0 n c0 xs A m c ys hs hx HO HR hA hbase hl k hk zs hz
theorem sC {n : Nat} (l : List UInt8) (hl : l.length = n) {g : Nat} {t : TypeId} {cs : Array Value} (hg : w.heap[g]? = some (.cells cs t (0, 0))) {ty : TypeId} {x y : Operand} (ho : o.op = .store ty x y := by exact rfl) (hx : a.eval x = .pointer (some ⟨g, 0, none⟩) := by kernel_rfl) (hy : a.eval y = .agg (b8s l).toArray := by kernel_rfl) (hi : (P.info? ty).map (·.size) = some n := by kernel_rfl) (hn : cs.size = n := by exact rfl) :
  ∃ w', (execOp a.eval o).run P w = .ok .skip w' ∧ w'.heap[g]? = some (.cells (b8s l).toArray t (0, 0)) ∧ Chg [g] w w' := storeAll ty x y ho g hx l n hl hy hi t cs hg hn
theorem lB {n : Nat} (l : List UInt8) (hl : l.length = n) {g : Nat} {t : TypeId} {fr : Nat × Nat} (hg : w.heap[g]? = some (.cells (b8s l).toArray t fr)) {ty : TypeId} {x : Operand} (ho : o.op = .load ty x := by exact rfl) (hu : (match P.underlying ty with | some d => d.isRow | none => false) = true := by kernel_rfl) (hx : a.eval x = .pointer (some ⟨g, 0, none⟩) := by kernel_rfl) (hi : (P.info? ty).map (·.size) = some n := by kernel_rfl) : (execOp a.eval o).run P w = .ok (.value (.agg (b8s l).toArray)) w := by
 split at hu
 ·rename_i d hd
  exact loadAll ty x ho d hd hu g hx l n hl hi t fr hg
 ·cases hu
end
end Go
namespace Mur
open Go Go.RowKit Wk
def hkey0 (s : List UInt8) : List UInt8 := if 64 < s.length then sha s else s
def hkey (s : List UInt8) : List UInt8 := hkey0 s ++ List.replicate (64 - (hkey0 s).length) 0
def xorl (c : UInt8) (l : List UInt8) : List UInt8 := l.map (· ^^^ c)
def hmac (s b : List UInt8) : List UInt8 := sha (xorl 92 (hkey s) ++ sha (xorl 54 (hkey s) ++ b))
theorem sha_len (b : List UInt8) : (sha b).length = 32 := Go.Proofs.YtgbadghjnpbiaaaGreatDoor.sha_length b
theorem xorl_length (c : UInt8) (l : List UInt8) : (xorl c l).length = l.length := by simp [xorl]
theorem hmac_length (s b : List UInt8) : (hmac s b).length = 32 := sha_len _
def xorTo (c : UInt8) (k : List UInt8) (i : Nat) : List UInt8 := xorl c (k.take i) ++ k.drop i
theorem xorTo_zero (c : UInt8) (k : List UInt8) : xorTo c k 0 = k := by simp [xorTo, xorl]
theorem xorTo_all (c : UInt8) (k : List UInt8) {n : Nat} (h : k.length = n) : xorTo c k n = xorl c k := by
 subst h
 simp [xorTo]
theorem xorTo_length (c : UInt8) (k : List UInt8) (i : Nat) : (xorTo c k i).length = k.length := by
 simp only [xorTo, List.length_append, xorl_length, List.length_take, List.length_drop]
 omega
theorem xorTo_getD (c : UInt8) (k : List UInt8) (i : Nat) (h : i < k.length) : (xorTo c k i).getD i 0 = k.getD i 0 := by
 have h1 : (xorl c (k.take i)).length = i := by rw [xorl_length, List.length_take]; omega
 simp only [xorTo, List.getD_eq_getElem?_getD]
 rw [List.getElem?_append_right (by omega), h1, List.getElem?_drop]
 simp
theorem xorl_succ (c : UInt8) (k : List UInt8) (i : Nat) (h : i < k.length) : xorl c (k.take (i + 1)) = xorl c (k.take i) ++ [k.getD i 0 ^^^ c] := by
 rw [List.take_succ_eq_append_getElem h, xorl, List.map_append]
 simp [xorl, List.getD_eq_getElem?_getD, h]
theorem xorTo_set (c : UInt8) (k : List UInt8) (i : Nat) (h : i < k.length) : (xorTo c k i).set i (k.getD i 0 ^^^ c) = xorTo c k (i + 1) := by
 have h1 : (xorl c (k.take i)).length = i := by rw [xorl_length, List.length_take]; omega
 unfold xorTo
 rw [List.set_append_right _ _ (by omega), h1, Nat.sub_self, xorl_succ c k i h, List.drop_eq_getElem_cons h, List.set_cons_zero, List.append_assoc]
 rfl
end Mur
namespace Mur
theorem key_small {s : List UInt8} {n : Nat} (h : s.length = n) (hn : n ≤ 64) : s ++ (List.replicate 64 0).drop n = hkey s := by
 have h1 : hkey0 s = s := if_neg (by omega)
 unfold hkey
 rw [h1, List.drop_replicate, h]
theorem key_big {s d : List UInt8} (h : 64 < s.length) (hd : d = sha s) : d ++ (List.replicate 64 0).drop 32 = hkey s := by
 have h1 : hkey0 s = sha s := if_pos h
 unfold hkey
 rw [h1, hd, List.drop_replicate, sha_len]
end Mur
namespace Mur
open Go Go.RowKit
def beN (l : List UInt8) : Nat := l.foldl (fun n b => n * 256 + b.toNat) 0
theorem beN_snoc (l : List UInt8) (b : UInt8) : beN (l ++ [b]) = beN l * 256 + b.toNat := by simp [beN]
theorem beN_foldl : ∀ (l : List UInt8) (n : Nat), l.foldl (fun n b => n * 256 + b.toNat) n = n * 256 ^ l.length + beN l
 | [], n => by simp [beN]
 | b :: l, n => by
  rw [List.foldl_cons, beN_foldl l, List.length_cons, Nat.pow_succ]
  have h : beN (b :: l) = b.toNat * 256 ^ l.length + beN l := by
   show l.foldl _ (0 * 256 + b.toNat) = _
   rw [beN_foldl l, Nat.zero_mul, Nat.zero_add]
  rw [h, Nat.add_mul, Nat.mul_assoc, Nat.mul_comm 256, Nat.add_assoc]
theorem beN_cons (b : UInt8) (l : List UInt8) : beN (b :: l) = b.toNat * 256 ^ l.length + beN l := by
 show l.foldl _ (0 * 256 + b.toNat) = _
 rw [beN_foldl l, Nat.zero_mul, Nat.zero_add]
theorem beN_lt : ∀ l : List UInt8, beN l < 256 ^ l.length
 | [] => by simp [beN]
 | b :: l => by
  rw [beN_cons, List.length_cons, Nat.pow_succ]
  have h1 := beN_lt l
  have h2 := b.toNat_lt
  have h3 : b.toNat * 256 ^ l.length ≤ 255 * 256 ^ l.length := Nat.mul_le_mul_right _ (by omega)
  omega
def digs (n : Nat) : List UInt8 := if _h : n = 0 then [] else digs (n / 256) ++ [UInt8.ofNat (n % 256)]
termination_by n
decreasing_by omega
theorem digs_zero : digs 0 = [] := by
 unfold digs
 rfl
theorem digs_pos {n : Nat} (h : n ≠ 0) : digs n = digs (n / 256) ++ [UInt8.ofNat (n % 256)] := by
 rw [digs, dif_neg h]
theorem beN_digs (n : Nat) : beN (digs n) = n := by
 induction n using Nat.strongRecOn with
 | _ n ih =>
  by_cases h : n = 0
  ·subst h
   rw [digs_zero]
   rfl
  ·rw [digs_pos h, beN_snoc, ih (n / 256) (by omega)]
   have : (UInt8.ofNat (n % 256)).toNat = n % 256 := by simp
   rw [this]
   omega
theorem digs_len {n k : Nat} (h : n < 256 ^ k) : (digs n).length ≤ k := by
 induction k generalizing n with
 | zero =>
  obtain rfl : n = 0 := by simp at h; exact h
  rw [digs_zero]
  exact Nat.le_refl 0
 | succ k ih =>
  by_cases h0 : n = 0
  ·subst h0
   rw [digs_zero]
   exact Nat.zero_le _
  ·rw [digs_pos h0, List.length_append]
   have := ih (n := n / 256) (by rw [Nat.pow_succ] at h; omega)
   simp
   omega
theorem digs_head (n : Nat) : (digs n).head? ≠ some 0 := by
 induction n using Nat.strongRecOn with
 | _ n ih =>
  by_cases h : n = 0
  ·subst h
   rw [digs_zero]
   simp
  ·rw [digs_pos h]
   by_cases h1 : n / 256 = 0
   ·rw [h1, digs_zero]
    intro e
    simp at e
    have := congrArg UInt8.toNat e
    simp at this
    omega
   ·have h2 : digs (n / 256) ≠ [] := fun e => h1 (by
     have := beN_digs (n / 256)
     rw [e] at this
     exact this.symm)
    obtain ⟨x, l, e⟩ := List.exists_cons_of_ne_nil h2
    have := ih (n / 256) (by omega)
    rw [e] at this ⊢
    simpa using this
theorem digs_beN : ∀ {l : List UInt8}, l.head? ≠ some 0 → digs (beN l) = l := by
 intro l
 induction h : l.length generalizing l with
 | zero =>
  intro _
  rw [List.eq_nil_of_length_eq_zero h]
  exact digs_zero
 | succ k ih =>
  intro hh
  obtain ⟨m, b, rfl⟩ : ∃ m b, l = m ++ [b] := ⟨l.dropLast, l.getLast (by rintro rfl; cases h), (List.dropLast_concat_getLast _).symm⟩
  have hm : m.length = k := by simpa using h
  have hm0 : m.head? ≠ some 0 := by
   rcases m with _ | ⟨x, m⟩
   ·simp
   ·simpa using hh
  have hb := b.toNat_lt
  have hne : beN (m ++ [b]) ≠ 0 := by
   rw [beN_snoc]
   intro e
   have h1 : beN m = 0 := by omega
   have h2 := ih hm hm0
   rw [h1, digs_zero] at h2
   subst h2
   have h3 : b = 0 := UInt8.toNat_inj.1 (by
    have : b.toNat = 0 := by omega
    rw [this]
    rfl)
   subst h3
   simp at hh
  rw [digs_pos hne, beN_snoc, show (beN m * 256 + b.toNat) / 256 = beN m by omega, show (beN m * 256 + b.toNat) % 256 = b.toNat by omega, ih hm hm0]
  simp
def formN (n : Nat) : List UInt8 := UInt8.ofNat (digs n).length :: digs n
def readN : List UInt8 → Option (Nat × List UInt8)
 | [] => none
 | s :: r => if 8 < s.toNat ∨ r.length < s.toNat ∨ (0 < s.toNat ∧ r.head? = some 0) then none else some (beN (r.take s.toNat), r.drop s.toNat)
theorem readN_cons (s : UInt8) (r : List UInt8) : readN (s :: r) = if 8 < s.toNat ∨ r.length < s.toNat ∨ (0 < s.toNat ∧ r.head? = some 0) then none else some (beN (r.take s.toNat), r.drop s.toNat) := rfl
theorem readN_form {n : Nat} (h : n < 2 ^ 64) (r : List UInt8) : readN (formN n ++ r) = some (n, r) := by
 have hl : (digs n).length ≤ 8 := digs_len (k := 8) (by simpa using h)
 have hs : (UInt8.ofNat (digs n).length).toNat = (digs n).length := by
  simp
  omega
 have e : formN n ++ r = UInt8.ofNat (digs n).length :: (digs n ++ r) := rfl
 rw [e, readN_cons, hs, if_neg, List.take_left' rfl, List.drop_left' rfl, beN_digs]
 rintro (h1 | h1 | ⟨h1, h2⟩)
 ·omega
 ·rw [List.length_append] at h1
  omega
 ·obtain ⟨x, l, e2⟩ := List.exists_cons_of_ne_nil (List.ne_nil_of_length_pos h1)
  have h3 := digs_head n
  rw [e2] at h2 h3
  exact h3 (by simpa using h2)
theorem readN_some {b r : List UInt8} {n : Nat} (h : readN b = some (n, r)) : b = formN n ++ r ∧ n < 2 ^ 64 := by
 rcases b with _ | ⟨s, t⟩
 ·cases h
 ·rw [readN_cons] at h
  split at h
  ·cases h
  ·rename_i hc
   have h1 : ¬ 8 < s.toNat := fun k => hc (.inl k)
   have h2 : ¬ t.length < s.toNat := fun k => hc (.inr (.inl k))
   have h3 : ¬ (0 < s.toNat ∧ t.head? = some 0) := fun k => hc (.inr (.inr k))
   injection h with h
   injection h with h4 h5
   subst h4 h5
   have hlen : (t.take s.toNat).length = s.toNat := by
    rw [List.length_take]
    omega
   have hh : (t.take s.toNat).head? ≠ some 0 := fun e => by
    rcases Nat.eq_zero_or_pos s.toNat with h0 | h0
    ·rw [h0] at e
     simp at e
    ·refine h3 ⟨h0, ?_⟩
     rcases t with _ | ⟨x, t⟩
     ·simp at e
     ·obtain ⟨k, hk⟩ : ∃ k, s.toNat = k + 1 := ⟨s.toNat - 1, by omega⟩
      rw [hk] at e
      simpa using e
   have hd := digs_beN hh
   refine ⟨?_, ?_⟩
   ·unfold formN
    rw [hd, hlen]
    simp
   ·have := beN_lt (t.take s.toNat)
    rw [hlen] at this
    refine Nat.lt_of_lt_of_le this ?_
    have : 256 ^ s.toNat ≤ 256 ^ 8 := Nat.pow_le_pow_right (by decide) (by omega)
    simpa using this
theorem formN_len {n : Nat} (h : n < 2 ^ 64) : (formN n).length ≤ 9 := by
 have := digs_len (n := n) (k := 8) (by simpa using h)
 simp [formN]
 omega
end Mur
namespace Mur
open Go Go.RowKit
abbrev Prs (α : Type) := List UInt8 → Option (α × List UInt8)
structure Codec {α : Type} (enc : α → List UInt8) (dom : α → Prop) (p : Prs α) : Prop where
 rt : ∀ x r, dom x → p (enc x ++ r) = some (x, r)
 un : ∀ b x r, p b = some (x, r) → b = enc x ++ r ∧ dom x
section
variable {α β : Type} {enc : α → List UInt8} {dom : α → Prop} {p : Prs α} {enc2 : β → List UInt8} {dom2 : β → Prop} {p2 : Prs β}
def pSeq (p : Prs α) (p2 : Prs β) : Prs (α × β) := fun b => (p b).bind fun y => (p2 y.2).map fun z => ((y.1, z.1), z.2)
theorem Codec.seq (h : Codec enc dom p) (k : Codec enc2 dom2 p2) : Codec (fun y : α × β => enc y.1 ++ enc2 y.2) (fun y => dom y.1 ∧ dom2 y.2) (pSeq p p2) := by
 refine ⟨fun x r hx => ?_, fun b x r hb => ?_⟩
 ·unfold pSeq
  rw [List.append_assoc, h.rt x.1 _ hx.1, Option.bind_some, k.rt x.2 r hx.2]
  rfl
 ·unfold pSeq at hb
  obtain ⟨⟨x1, r1⟩, h1, h2⟩ := Option.bind_eq_some_iff.1 hb
  obtain ⟨⟨x2, r2⟩, h3, h4⟩ := Option.map_eq_some_iff.1 h2
  simp only [Prod.mk.injEq] at h4
  obtain ⟨rfl, rfl⟩ := h4
  obtain ⟨e1, d1⟩ := h.un b x1 r1 h1
  obtain ⟨e2, d2⟩ := k.un r1 x2 r2 h3
  exact ⟨by rw [e1, e2, List.append_assoc], d1, d2⟩
def pIf (p : Prs α) (ok : α → Bool) : Prs α := fun b => (p b).bind fun y => if ok y.1 then some y else none
theorem Codec.only (h : Codec enc dom p) (ok : α → Bool) : Codec enc (fun x => dom x ∧ ok x = true) (pIf p ok) := by
 refine ⟨fun x r hx => ?_, fun b x r hb => ?_⟩
 ·unfold pIf
  rw [h.rt x r hx.1, Option.bind_some, if_pos hx.2]
 ·unfold pIf at hb
  obtain ⟨⟨x1, r1⟩, h1, h2⟩ := Option.bind_eq_some_iff.1 hb
  split at h2
  ·rename_i ho
   cases h2
   obtain ⟨e1, d1⟩ := h.un b x r h1
   exact ⟨e1, d1, ho⟩
  ·cases h2
theorem Codec.iso (h : Codec enc dom p) (f : α → β) (g : β → α) (hg : ∀ y, dom2 y → dom (g y) ∧ f (g y) = y) (hf : ∀ x, dom x → dom2 (f x) ∧ g (f x) = x) : Codec (fun y => enc (g y)) dom2 (fun b => (p b).map fun y => (f y.1, y.2)) := by
 refine ⟨fun y r hy => ?_, fun b y r hb => ?_⟩
 ·show (p (enc (g y) ++ r)).map _ = _
  rw [h.rt (g y) r (hg y hy).1, Option.map_some, (hg y hy).2]
 ·obtain ⟨⟨x, r1⟩, h1, h2⟩ := Option.map_eq_some_iff.1 hb
  simp only [Prod.mk.injEq] at h2
  obtain ⟨rfl, rfl⟩ := h2
  obtain ⟨e1, d1⟩ := h.un b x r1 h1
  exact ⟨by rw [(hf x d1).2]; exact e1, (hf x d1).1⟩
def pMany (p : Prs α) : Nat → Prs (List α)
 | 0 => fun b => some ([], b)
 | n + 1 => fun b => (p b).bind fun y => (pMany p n y.2).map fun z => (y.1 :: z.1, z.2)
theorem Codec.many (h : Codec enc dom p) : ∀ n, Codec (fun l : List α => (l.map enc).flatten) (fun l => l.length = n ∧ ∀ x, x ∈ l → dom x) (pMany p n)
 | 0 => ⟨fun l r hl => by
   obtain rfl := List.eq_nil_of_length_eq_zero hl.1
   rfl, fun b l r hb => by
   unfold pMany at hb
   cases hb
   exact ⟨rfl, rfl, fun x hx => by cases hx⟩⟩
 | n + 1 => by
  have ih := h.many n
  refine ⟨fun l r hl => ?_, fun b l r hb => ?_⟩
  ·obtain ⟨x, l, rfl⟩ : ∃ x m, l = x :: m := by
    rcases l with _ | ⟨x, m⟩
    ·cases hl.1
    ·exact ⟨x, m, rfl⟩
   unfold pMany
   rw [List.map_cons, List.flatten_cons, List.append_assoc, h.rt x _ (hl.2 x (by simp)), Option.bind_some, ih.rt l r ⟨by simpa using hl.1, fun y hy => hl.2 y (List.mem_cons_of_mem _ hy)⟩]
   rfl
  ·unfold pMany at hb
   obtain ⟨⟨x1, r1⟩, h1, h2⟩ := Option.bind_eq_some_iff.1 hb
   obtain ⟨⟨l2, r2⟩, h3, h4⟩ := Option.map_eq_some_iff.1 h2
   simp only [Prod.mk.injEq] at h4
   obtain ⟨rfl, rfl⟩ := h4
   obtain ⟨e1, d1⟩ := h.un b x1 r1 h1
   obtain ⟨e2, d2⟩ := ih.un r1 l2 r2 h3
   refine ⟨?_, by simp [d2.1], fun y hy => ?_⟩
   ·show b = (List.map enc (x1 :: l2)).flatten ++ r2
    rw [List.map_cons, List.flatten_cons, List.append_assoc, e1]
    congr 1
   ·rcases List.mem_cons.1 hy with rfl | hy
    ·exact d1
    ·exact d2.2 y hy
end
-- numbers, of at most so much
theorem codecN : Codec formN (fun n => n < 2 ^ 64) readN := ⟨fun _ r hx => readN_form hx r, fun _ _ _ hb => readN_some hb⟩
def readI : Prs Nat := pIf readN fun n => decide (n ≤ 2 ^ 30)
theorem codecI : Codec formN (fun n => n ≤ 2 ^ 30) readI := by
 have h := codecN.only fun n => decide (n ≤ 2 ^ 30)
 exact ⟨fun x r hx => h.rt x r ⟨by omega, by simpa using hx⟩, fun b x r hb => ⟨(h.un b x r hb).1, by simpa using (h.un b x r hb).2.2⟩⟩
def readK : Prs Nat := pIf readI fun n => decide (n ≤ 255)
theorem codecK : Codec formN (fun n => n ≤ 255) readK := by
 have h := codecI.only fun n => decide (n ≤ 255)
 exact ⟨fun x r hx => h.rt x r ⟨by omega, by simpa using hx⟩, fun b x r hb => ⟨(h.un b x r hb).1, by simpa using (h.un b x r hb).2.2⟩⟩
def flagN (b : Bool) : Nat := if b then 1 else 0
def readFlag : Prs Bool := fun b => (pIf readI (fun n => decide (n ≤ 1)) b).map fun y => (decide (y.1 = 1), y.2)
theorem codecFlag : Codec (fun b => formN (flagN b)) (fun _ => True) readFlag := by
 have h := codecI.only fun n => decide (n ≤ 1)
 refine h.iso (dom2 := fun _ => True) (fun n => decide (n = 1)) flagN (fun b _ => ⟨⟨by cases b <;> decide, by cases b <;> decide⟩, by cases b <;> rfl⟩) fun n hn => ⟨trivial, ?_⟩
 have h1 : n ≤ 1 := by simpa using hn.2
 rcases Nat.le_one_iff_eq_zero_or_eq_one.1 h1 with rfl | rfl <;> rfl
def readS (n : Nat) : Prs (List UInt8) := fun b => if b.length < n then none else some (b.take n, b.drop n)
theorem codecS (n : Nat) : Codec (fun l : List UInt8 => l) (fun l => l.length = n) (readS n) := by
 refine ⟨fun l r hl => ?_, fun b l r hb => ?_⟩
 ·unfold readS
  rw [if_neg (by rw [List.length_append]; omega), List.take_left' hl, List.drop_left' hl]
 ·unfold readS at hb
  split at hb
  ·cases hb
  ·rename_i hn
   cases hb
   exact ⟨(List.take_append_drop n b).symm, by rw [List.length_take]; omega⟩
def readB : Prs (List UInt8) := fun b => (readN b).bind fun y => readS y.1 y.2
theorem codecB : Codec (fun l : List UInt8 => formN l.length ++ l) (fun l => l.length < 2 ^ 64) readB := by
 refine ⟨fun l r hl => ?_, fun b l r hb => ?_⟩
 ·unfold readB
  rw [List.append_assoc, readN_form hl, Option.bind_some]
  exact (codecS l.length).rt l r rfl
 ·unfold readB at hb
  obtain ⟨⟨n, r1⟩, h1, h2⟩ := Option.bind_eq_some_iff.1 hb
  obtain ⟨e1, d1⟩ := readN_some h1
  obtain ⟨e2, d2⟩ := (codecS n).un r1 l r h2
  exact ⟨by rw [e1, e2, d2, List.append_assoc], by rw [d2]; exact d1⟩
def readL {α : Type} (p : Prs α) : Prs (List α) := fun b => (readI b).bind fun y => pMany p y.1 y.2
theorem codecL {α : Type} {enc : α → List UInt8} {dom : α → Prop} {p : Prs α} (h : Codec enc dom p) : Codec (fun l : List α => formN l.length ++ (l.map enc).flatten) (fun l => l.length ≤ 2 ^ 30 ∧ ∀ x, x ∈ l → dom x) (readL p) := by
 refine ⟨fun l r hl => ?_, fun b l r hb => ?_⟩
 ·unfold readL
  rw [List.append_assoc, codecI.rt l.length _ hl.1, Option.bind_some]
  exact (h.many l.length).rt l r ⟨rfl, hl.2⟩
 ·unfold readL at hb
  obtain ⟨⟨n, r1⟩, h1, h2⟩ := Option.bind_eq_some_iff.1 hb
  obtain ⟨e1, d1⟩ := codecI.un b n r1 h1
  obtain ⟨e2, d2⟩ := (h.many n).un r1 l r h2
  exact ⟨by rw [e1, e2, d2.1, List.append_assoc], by rw [d2.1]; exact d1, d2.2⟩
end Mur
namespace Mur
open Go Go.RowKit Wk
structure Dop where
 kd : Int
 f : Int
 A : Option Addr
 m : Nat
 c : Nat
 b : List UInt8
 k0 : Int
 k1 : Int
def Dop.cells (x : Dop) : List Value := [.int .i64 x.kd, .int .i64 x.f, .slice x.A x.m x.c, .int .i64 x.k0, .int .i64 x.k1]
structure Dop.Ok (w : World) (x : Dop) : Prop where
 byt : Byt w x.A x.m x.b
 nc : x.m ≤ x.c
 cm : x.c ≤ 9223372036854775807
 nil : x.A = none → x.c = 0
def Dops (w : World) (A : Option Addr) (n : Nat) (L : List Dop) : Prop :=
 L.length = n ∧ (∀ x ∈ L, x.Ok w) ∧ (0 < n → ∃ g off, A = some ⟨g, off, none⟩ ∧ ∀ i x, L[i]? = some x → w.rangeAt g (off + i * 5) x.cells)
theorem Dops.at {w : World} {A : Option Addr} {n : Nat} {L : List Dop} (h : Dops w A n L) {k : Nat} (hk : k < n) : ∃ g off kd f B mb cb bs k0 k1, A = some ⟨g, off, none⟩ ∧ g < w.heap.size ∧ w.rangeAt g (off + k * 5) [.int .i64 kd, .int .i64 f, .slice B mb cb, .int .i64 k0, .int .i64 k1] ∧ Byt w B mb bs ∧ mb ≤ cb ∧ cb ≤ 9223372036854775807 ∧ (B = none → cb = 0) := by
 obtain ⟨h1, h2, h3⟩ := h
 obtain ⟨g, off, rfl, hc⟩ := h3 (by omega)
 obtain ⟨x, hx⟩ : ∃ x, L[k]? = some x := ⟨_, List.getElem?_eq_getElem (by omega)⟩
 have hok := h2 x (List.mem_of_getElem? hx)
 have q := hc k x hx
 have hg : g < w.heap.size := World.block_lt_of_cell? w ⟨g, off + k * 5 + 0, none⟩ (q 0 (.int .i64 x.kd) rfl)
 exact ⟨g, off, x.kd, x.f, x.A, x.m, x.c, x.b, x.k0, x.k1, rfl, hg, q, hok.byt, hok.nc, hok.cm, hok.nil⟩
end Mur
namespace Mur
end Mur
namespace Mur
open Go Go.RowKit Wk
section
variable {P : Program} {w : World} {a : Act} {o : Oper}
theorem to_u64 (s t : TypeId) (x : Operand) (ho : o.op = .convert s t x) (hs : (P.underlying s).isSome = true) (ht : P.underlying t = some (.int .u64)) (k : IntKind) (z : Int) (hx : a.eval x = .int k z) :
  ∃ v w1, (execOp a.eval o).run P w = .ok (.value v) w1 ∧ ∃ u : Nat, v = .int .u64 (u : Int) ∧ w = w1 ∧ (u : Int) = IntKind.u64.wrap z := by
 have h0 : 0 ≤ IntKind.u64.wrap z := by
  simp only [IntKind.wrap]
  exact Int.emod_nonneg _ (by decide)
 have hk : P.intKind t = .u64 := by simp [Program.intKind, ht]
 refine ⟨_, w, ?_, (IntKind.u64.wrap z).toNat, rfl, rfl, Int.toNat_of_nonneg h0⟩
 have key : (convert s t (.int k z)).run P w = .ok (.int .u64 (IntKind.u64.wrap z)) w := by
  have := run_convert_int (P := P) (w := w) s t k z hs (by rw [ht, hk])
  rw [this, hk]
 unfold execOp
 simp only [ho, hx, Sem.run_bind, key, Result.andThen_ok, Sem.run_pure, Int.toNat_of_nonneg h0]
theorem conv_int (s t : TypeId) (x : Operand) (ho : o.op = .convert s t x) (hs : (P.underlying s).isSome = true) (k' : IntKind) (ht : P.underlying t = some (.int k')) (k : IntKind) (z : Int) (hx : a.eval x = .int k z) (hz : k'.wrap z = z) :
  (execOp a.eval o).run P w = .ok (.value (.int k' z)) w := by
 have hk : P.intKind t = k' := by simp [Program.intKind, ht]
 have key : (convert s t (.int k z)).run P w = .ok (.int k' z) w := by
  have := run_convert_int (P := P) (w := w) s t k z hs (by rw [ht, hk])
  rw [this, hk, hz]
 unfold execOp
 simp only [ho, hx, Sem.run_bind, key, Result.andThen_ok, Sem.run_pure]
theorem u64_nat {n : Nat} (h : n < 18446744073709551616) : IntKind.u64.wrap (n : Int) = (n : Int) := by
 have h1 : IntKind.u64.wrap (n : Int) = (n : Int) % 18446744073709551616 := rfl
 rw [h1, Int.emod_eq_of_lt (by omega) (by omega)]
theorem i64_nat {n : Nat} (h : n < 9223372036854775808) : IntKind.i64.wrap (n : Int) = (n : Int) := IntWalk.i64_in _ ⟨by omega, by omega⟩
theorem rem_u64 (t ty : TypeId) (x y : Operand) (ho : o.op = .binOp .rem t x y ty) (i n : Nat) (hx : a.eval x = .int .u64 (i : Int)) (hy : a.eval y = .int .u64 (n : Int)) (hn : 0 < n) :
  (execOp a.eval o).run P w = .ok (.value (.int .u64 ((i % n : Nat) : Int))) w := by
 have hne : ¬ n = 0 := by omega
 unfold execOp
 simp only [ho, hx, hy]
 simp [eqGuard, binOp, Op.intDiv, hne, Int.tmod_eq_emod_of_nonneg (show (0 : Int) ≤ (i : Int) by omega)]
theorem run_op_from (t : TypeId) (x y : Operand) (ho : o.op = .slice t x (some y) none none) (e : TypeId) (ht : P.underlying t = some (.slice e)) (hsz : (P.info? e).map (·.size) = some 1) (A : Option Addr) (n c l : Nat)
  (hx : a.eval x = .slice A n c) (hy : a.eval y = .int .i64 (l : Int)) (hl : l ≤ n) (hnc : n ≤ c) : (execOp a.eval o).run P w = .ok (.value (.slice (cutA A c l) (n - l) (c - l))) w := by
 unfold execOp
 simp only [ho, hx, hy, Option.map_some, Option.map_none, Sem.run_bind, run_cut_from t e ht hsz A n c l hl hnc, Result.andThen_ok, Sem.run_pure]
theorem byt_from {A : Option Addr} {n c : Nat} {l : List UInt8} (h : Byt w A n l) (k : Nat) (hk : k ≤ n) (hnc : n ≤ c) : Byt w (cutA A c k) (n - k) (l.drop k) := by
 have := h.cut k n hk (Nat.le_refl _) hnc
 rwa [List.take_of_length_le (by rw [h.1]; exact Nat.le_refl _)] at this
end
end Mur
namespace Mur
open Go Go.RowKit Wk
section
variable {P : Program}
theorem run_eql_no {T e : TypeId} (h : DigT P T e) (d d' : List UInt8) (hd : d.length = 32) (hd' : d'.length = 32) (he : ¬ d = d') (w : World) (x y : Operand) (ty : TypeId) {a : Act} {o : Oper} (ho : o.op = .binOp .eql T x y ty)
  (hx : a.eval x = .agg (b8s d).toArray) (hy : a.eval y = .agg (b8s d').toArray) : (execOp a.eval o).run P w = .ok (.value (.bool false)) w := by
 rw [run_eql_dig h d d' hd hd' w x y ty a o ho hx hy, decide_eq_false he]
theorem run_eql_yes {T e : TypeId} (h : DigT P T e) (d d' : List UInt8) (hd : d.length = 32) (hd' : d'.length = 32) (he : d = d') (w : World) (x y : Operand) (ty : TypeId) {a : Act} {o : Oper} (ho : o.op = .binOp .eql T x y ty)
  (hx : a.eval x = .agg (b8s d).toArray) (hy : a.eval y = .agg (b8s d').toArray) : (execOp a.eval o).run P w = .ok (.value (.bool true)) w := by
 rw [run_eql_dig h d d' hd hd' w x y ty a o ho hx hy, decide_eq_true he]
end
end Mur
namespace Go.Proofs.YtgbadghjnpbiaaaGreatDoor
open Go.RowKit
def n64s (l : List Nat) : Array Value := (l.map fun x : Nat => Value.int .u64 (x : Int)).toArray
theorem cell_n64s {w : World} {g t i : Nat} {fr : Nat × Nat} {l : List Nat} (h : w.heap[g]? = some (.cells (n64s l) t fr)) (hi : i < l.length) : w.cell? ⟨g, i, none⟩ = some (.int .u64 ((l.getD i 0 : Nat) : Int)) := by
 rw [cell_of_row w g i _ t _ h]
 simp [n64s, List.getD_eq_getElem?_getD, hi]
theorem set_n64s {w : World} {g t i : Nat} {l : List Nat} (h : w.heap[g]? = some (.cells (n64s l) t (0, 0))) (x : Nat) : (w.setCell ⟨g, i, none⟩ (.int .u64 (x : Int))).heap[g]? = some (.cells (n64s (l.set i x)) t (0, 0)) := by
 rw [heap_setCell_same w g i _ t _ h]
 simp [n64s, List.map_set]
theorem n64s_all (l : List Nat) : (n64s l).all (·.oneCell') = true := by simp [n64s, Value.oneCell']
theorem n64s_size (l : List Nat) : (n64s l).size = l.length := by simp [n64s]
theorem getD_lt {l : List Nat} {B : Nat} (hB : 0 < B) (h : ∀ x ∈ l, x < B) (i : Nat) : l.getD i 0 < B := by
 rw [List.getD_eq_getElem?_getD]
 cases hq : l[i]? with
 | none => simpa using hB
 | some x => exact h x (List.mem_of_getElem? hq)
theorem ret_bool {a b : Bool} (h : a = b) : Ending.returned (.bool a) = .returned (.bool b) := by rw [h]
theorem primeB_of {n k : Nat} (h : ∀ j, 2 ≤ j → j < k → n % j ≠ 0) (hsq : n < k * k) : Mur.primeB n = decide (1 < n) := by
 have hall : ((List.range n).all fun j => decide (j < 2) || decide (n < j * j) || n % j != 0) = true := by
  rw [List.all_eq_true]
  intro j _
  by_cases h2 : j < 2
  ·simp [h2]
  ·by_cases hj : j < k
   ·have := h j (by omega) hj
    simp [this]
   ·have : k * k ≤ j * j := Nat.mul_le_mul (by omega) (by omega)
    simp [show n < j * j by omega]
 unfold Mur.primeB
 rw [hall, Bool.and_true]
theorem primeB_not {n k : Nat} (hk : 2 ≤ k) (hsq : k * k ≤ n) (hd : n % k = 0) : Mur.primeB n = false := by
 have hlt : k < n := by
  have : 2 * k ≤ k * k := Nat.mul_le_mul_right _ hk
  omega
 unfold Mur.primeB
 rw [Bool.and_eq_false_iff]
 right
 rw [List.all_eq_false]
 exact ⟨k, List.mem_range.2 hlt, by simp [hd, show ¬ k < 2 by omega, show ¬ n < k * k by omega]⟩
set_option maxRecDepth 100000
theorem prime_any (n : Nat) (w : World) (hn : n ≤ 400) : Calls Tryz.prog 102 #[.int .i64 (n : Int)] w fun e w' => e = .returned (.bool (Mur.primeB n)) ∧ w = w' := by
 go_enter Tryz.func102, Tryz.ntmps102
 go_wp2
 go_loop [3] (fun v => ∃ k : Nat, 2 ≤ k ∧ k ≤ n + 2 ∧ v = .int .i64 k ∧ Hid (∀ j, 2 ≤ j → j < k → n % j ≠ 0)) (fun v => n + 3 - (intOf v).toNat)
 case atStart => exact ⟨2, by omega, by omega, rfl, fun j h1 h2 => by omega⟩
 case round =>
  obtain ⟨k, hk2, hkn, rfl, hno⟩ := hrel
  have b1 : (k : Int) * (k : Int) ≤ 1000000 := by
   have : k * k ≤ 402 * 402 := Nat.mul_le_mul (by omega) (by omega)
   have h : ((k * k : Nat) : Int) ≤ 1000000 := by omega
   rwa [Int.natCast_mul] at h
  have b0 : 0 ≤ (k : Int) * (k : Int) := Int.mul_nonneg (by omega) (by omega)
  by_cases hsq : k * k ≤ n
  ·have hsq' : (k : Int) * (k : Int) ≤ (n : Int) := by
    have h : ((k * k : Nat) : Int) ≤ (n : Int) := by omega
    rwa [Int.natCast_mul] at h
   by_cases hd : n % k = 0
   ·have hp := primeB_not hk2 hsq hd
    have HP := Go.Lib.hid hp; clear hp
    have hd' : ((n : Int) % (k : Int) == 0) = true := by rw [beq_iff_eq]; omega
    clear hsq hd
    go_wp2
    go_ret
    exact ⟨by rw [HP.out]; rfl, rfl⟩
   ·have hd' : ((n : Int) % (k : Int) == 0) = false := by rw [beq_eq_false_iff_ne]; omega
    have HD := Go.Lib.hid hd; clear hd
    have HS := Go.Lib.hid hsq; clear hsq
    go_wp2
    refine ⟨⟨k + 1, by omega, ?_, by go_num, fun j h1 h2 => ?_⟩, by simp [intOf]; omega⟩
    ·have : 2 * k ≤ k * k := Nat.mul_le_mul_right _ hk2
     have := HS.out
     omega
    ·by_cases e : j = k
     ·rw [e]; exact HD.out
     ·exact hno.out j h1 (by omega)
  ·have hsq' : (n : Int) < (k : Int) * (k : Int) := by
    have h : (n : Int) < ((k * k : Nat) : Int) := by omega
    rwa [Int.natCast_mul] at h
   have hp := primeB_of hno.out (by omega)
   have HP := Go.Lib.hid hp; clear hp hno hsq
   go_wp2
   go_ret
   exact ⟨ret_bool (by rw [HP.out, decide_eq_decide]; omega), rfl⟩
def L3 (w : World) (d e : List Nat) (wr : World) : Prop :=
 Below w.heap.size w wr ∧ wr.heap.size = w.heap.size + 2 ∧ wr.heap[w.heap.size]? = some (.cells (n64s d) 143 (0, 0)) ∧ wr.heap[w.heap.size + 1]? = some (.cells (n64s e) 143 (0, 0))
theorem L3.set {w wr : World} {d e : List Nat} (h : L3 w d e wr) (k x : Nat) : L3 w d (e.set k x) (wr.setCell ⟨w.heap.size + 1, k, none⟩ (.int .u64 (x : Int))) :=
 ⟨h.1.setCell (by simp) _, by simpa using h.2.1, Mur.hp_set_ne h.2.2.1 _ _ _ (by omega), set_n64s h.2.2.2 x⟩
def digTo4 (n k : Nat) : List Nat := (Mur.dgs 10 n).take k ++ List.replicate (10 - k) 0
theorem digTo4_succ (n k : Nat) (h : k < 10) : digTo4 n (k + 1) = (digTo4 n k).set k (n / 65536 ^ k % 65536) := by
 have hl := Mur.dgs_length 10 n
 have hq : k < (Mur.dgs 10 n).length := by omega
 have hg : (Mur.dgs 10 n)[k] = n / 65536 ^ k % 65536 := by
  rw [← Mur.dgs_getD 10 n k h, List.getD_eq_getElem?_getD, List.getElem?_eq_getElem hq]
  rfl
 have hlt : ((Mur.dgs 10 n).take k).length = k := by rw [List.length_take]; omega
 rw [digTo4, digTo4, List.take_succ_eq_append_getElem hq, hg, show 10 - k = (10 - (k + 1)) + 1 by omega, List.replicate_succ, List.set_append_right _ _ (by omega), hlt, Nat.sub_self, List.set_cons_zero, List.append_assoc]
 rfl
theorem digTo4_length (n k : Nat) (h : k ≤ 10) : (digTo4 n k).length = 10 := by simp [digTo4, Mur.dgs_length]; omega
theorem digTo4_four (n : Nat) (h : n < 281474976710656) : digTo4 n 4 = Mur.dgs 10 n := by
 have e := Mur.dgs_small 4 6 n (by omega)
 have hl := Mur.dgs_length 4 n
 unfold digTo4
 rw [e, List.take_append_of_le_length (by omega), List.take_of_length_le (by omega)]
theorem digits_any (n : Nat) (w : World) (hn : n < 281474976710656) : Calls Tryz.prog 103 #[.int .u64 (n : Int)] w
  fun e w' => ∃ l, Hid (l = Mur.dgs 10 n) ∧ l.length = 10 ∧ (∀ x ∈ l, x < 65536) ∧ e = .returned (.agg (n64s l)) ∧ Below w.heap.size w w' := by
 go_enter Tryz.func103, Tryz.ntmps103
 go_wp2
 go_loopw [0, 4] (fun v t wr => ∃ k m : Nat, k ≤ 4 ∧ t = .int .i64 k ∧ m ≤ n ∧ Hid (m = n / 65536 ^ k) ∧ v = .int .u64 (m : Int) ∧ L3 w (List.replicate 10 0) (digTo4 n k) wr) (fun _ t _ => 4 - (intOf t).toNat)
 case atStart =>
  refine ⟨0, n, by omega, rfl, Nat.le_refl _, Go.Lib.hid (by simp), rfl, ((Below.refl _ _).alloc (Nat.le_refl _) _).alloc (by simp) _, by simp, ?_, ?_⟩
  ·exact (Mur.hp_old (Mur.hp_a1 _ _) _).trans rfl
  ·exact (Mur.hp_a2 _ _ _).trans rfl
 case round =>
  obtain ⟨k, m, hk, rfl, hm, hmk, rfl, HL⟩ := hrel
  by_cases hlt : k < 4
  ·have cd := cell_n64s (i := k) HL.2.2.2 (by rw [digTo4_length _ _ (by omega)]; omega)
   have fd := Mur.free_row (i := k) HL.2.2.2
   go_wp2
   refine ⟨⟨k + 1, m / 65536, by omega, by go_num, by omega, Go.Lib.hid (by rw [hmk.out, Nat.div_div_eq_div_mul, Nat.pow_succ]), by go_num, ?_⟩, by simp [intOf]; omega⟩
   rw [digTo4_succ n k (by omega), ← hmk.out]
   exact HL.set k (m % 65536)
  ·obtain rfl : k = 4 := by omega
   have hz : (n64s (digTo4 n 4)).size = 10 := by rw [n64s_size, digTo4_length _ _ (by omega)]
   have hd : digTo4 n 4 = Mur.dgs 10 n := digTo4_four n hn
   have HD := Go.Lib.hid hd; clear hd
   have HZ := Go.Lib.hid hz; clear hz
   go_wp2_with (first
    | (refine wpList_load_row rfl 143 (.tmp 3) rfl (w.heap.size + 1) rfl 143 (n64s (digTo4 n 4)) (0, 0) _ HL.2.2.2 Tryz.underlying143 rfl (by rw [HZ.out]; kernel_rfl) ?_)
    | (refine wpList_store_row rfl 143 (.tmp 2) (.tmp 15) rfl w.heap.size (n64s (digTo4 n 4)) rfl rfl 143 (n64s (List.replicate 10 0)) HL.2.2.1 (by rw [HZ.out]; kernel_rfl) (by rw [HZ.out]; rfl) (n64s_all _) ?_))
   refine bodyPost_ret (v := .agg (n64s (digTo4 n 4))) (results_cell_row rfl _ _ w.heap.size 143 (n64s (digTo4 n 4)) (0, 0) _ rfl (setRow_heap _ _ _ _ _ _ HL.2.2.1) Tryz.underlying143 rfl (by rw [HZ.out]; kernel_rfl)) rfl ⟨_, HD, digTo4_length _ _ (by omega), ?_, rfl, below_setRow HL.1 (Nat.le_refl _) _⟩
   rw [HD.out]
   exact Mur.dgs_lt 10 n
end Go.Proofs.YtgbadghjnpbiaaaGreatDoor
namespace Go.Proofs.YtgbadghjnpbiaaaGreatDoor
open Go.RowKit
def L5 (w : World) (a b : List Nat) (wr : World) : Prop :=
 Below w.heap.size w wr ∧ w.heap.size + 2 ≤ wr.heap.size ∧ wr.heap[w.heap.size]? = some (.cells (n64s a) 143 (0, 0)) ∧ wr.heap[w.heap.size + 1]? = some (.cells (n64s b) 143 (0, 0))
theorem L5.drewN {w wr : World} {a b : List Nat} (h : L5 w a b wr) (n : Nat) : L5 w a b (wr.drewN n) := ⟨Mur.below_drewN h.1 n, h.2.1, h.2.2.1, h.2.2.2⟩
set_option maxRecDepth 100000
theorem above_any (a b : List Nat) (w : World) (ha : a.length = 10) (hb : b.length = 10) (ha' : ∀ x ∈ a, x < 65536) (hb' : ∀ x ∈ b, x < 65536) :
  Calls Tryz.prog 105 #[.agg (n64s a), .agg (n64s b)] w fun e w' => e = .returned (.bool (decide (Mur.val b < Mur.val a))) ∧ Below w.heap.size w w' := by
 have HA := Go.Lib.hid ha; clear ha
 have HB := Go.Lib.hid hb; clear hb
 have HA' := Go.Lib.hid ha'; clear ha'
 have HB' := Go.Lib.hid hb'; clear hb'
 go_enter Tryz.func105, Tryz.ntmps105
 go_wp2
 go_loopw [5] (fun v wr => ∃ (k : Nat) (iv : Int), k ≤ 10 ∧ v = .int .i64 iv ∧ Hid (iv = (k : Int) - 1) ∧ Hid (a.drop k = b.drop k) ∧ L5 w a b wr) (fun v _ => (intOf v + 1).toNat)
 case atStart =>
  refine ⟨10, 9, by omega, rfl, Go.Lib.hid (by omega), Go.Lib.hid ?_, ((Below.refl _ _).alloc (Nat.le_refl _) _).alloc (by simp) _, by simp, ?_, ?_⟩
  ·rw [List.drop_of_length_le (by rw [HA.out]; exact Nat.le_refl _), List.drop_of_length_le (by rw [HB.out]; exact Nat.le_refl _)]
  ·exact Mur.hp_old (Mur.hp_a1 _ _) _
  ·exact Mur.hp_a2 _ _ _
 case round =>
  obtain ⟨k, iv, hk, rfl, hiv, hd, HL⟩ := hrel
  rcases Nat.eq_zero_or_pos k with h0 | h0
  ·have hn : iv < 0 := by have := hiv.out; omega
   have hf : Hid (decide (Mur.val b < Mur.val a) = false) := Go.Lib.hid (by
    have := hd.out
    rw [h0, List.drop_zero, List.drop_zero] at this
    simp [this])
   clear h0
   go_wp2
   go_ret
   exact ⟨ret_bool hf.out.symm, HL.1⟩
  ·obtain ⟨m, rfl⟩ : ∃ m, k = m + 1 := ⟨k - 1, by omega⟩
   obtain rfl : iv = (m : Int) := by have := hiv.out; omega
   have ca := cell_n64s (i := m) HL.2.2.1 (by rw [HA.out]; omega)
   have cb := cell_n64s (i := m) HL.2.2.2 (by rw [HB.out]; omega)
   obtain ⟨x, hx⟩ : ∃ x, a.getD m 0 = x := ⟨_, rfl⟩
   obtain ⟨y, hy⟩ : ∃ y, b.getD m 0 = y := ⟨_, rfl⟩
   rw [hx] at ca
   rw [hy] at cb
   have HX := Go.Lib.hid hx; clear hx
   have HY := Go.Lib.hid hy; clear hy
   by_cases e : x = y
   ·have e' : ((x : Int) != (y : Int)) = false := by rw [bne_eq_false_iff_eq]; omega
    have E := Go.Lib.hid e; clear e
    go_wp2
    go_quiet (fail)
    go_wp2
    refine ⟨⟨m, (m : Int) - 1, by omega, by go_num, Go.Lib.hid rfl, Go.Lib.hid ?_, HL.drewN _⟩, by simp [intOf]⟩
    exact Mur.drop_step a b m (by rw [HA.out]; omega) (by rw [HA.out, HB.out]) hd.out (by rw [HX.out, HY.out]; exact E.out)
   ·have e' : ((x : Int) != (y : Int)) = true := by rw [bne_iff_ne]; omega
    have hres : Hid (decide (Mur.val b < Mur.val a) = decide (y < x)) := Go.Lib.hid (by
     rw [decide_eq_decide]
     have hla : a.length = b.length := by rw [HA.out, HB.out]
     constructor
     ·intro h
      rcases Nat.lt_or_ge y x with h' | h'
      ·omega
      ·have := Mur.val_gt b a m hla.symm (by rw [HB.out]; omega) HA'.out hd.out.symm (by rw [HX.out, HY.out]; omega)
       omega
     ·intro h
      exact Mur.val_gt a b m hla (by rw [HA.out]; omega) HB'.out hd.out (by rw [HX.out, HY.out]; omega))
    clear e
    go_wp2
    go_quiet (fail)
    go_wp2
    go_quiet (fail)
    go_wp2
    go_ret
    exact ⟨ret_bool (by rw [hres.out]), ((HL.drewN _).drewN _).1⟩
/-! times -/
def Dig (l : List Nat) : Prop := l.length = 10 ∧ ∀ x ∈ l, x < 65536
theorem Dig.set {l : List Nat} (h : Dig l) (k x : Nat) (hx : x < 65536) : Dig (l.set k x) :=
 ⟨by rw [List.length_set]; exact h.1, fun y hy => by
  rcases List.mem_or_eq_of_mem_set hy with h1 | h1
  ·exact h.2 y h1
  ·rw [h1]; exact hx⟩
def L6 (w : World) (a b o : List Nat) (wr : World) : Prop :=
 Below w.heap.size w wr ∧ w.heap.size + 4 ≤ wr.heap.size ∧ wr.heap[w.heap.size]? = some (.cells (n64s a) 143 (0, 0)) ∧ wr.heap[w.heap.size + 1]? = some (.cells (n64s b) 143 (0, 0)) ∧
 wr.heap[w.heap.size + 1 + 1]? = some (.cells (n64s (List.replicate 10 0)) 143 (0, 0)) ∧ wr.heap[w.heap.size + 1 + 1 + 1]? = some (.cells (n64s o) 143 (0, 0))
theorem L6.drewN {w wr : World} {a b o : List Nat} (h : L6 w a b o wr) (n : Nat) : L6 w a b o (wr.drewN n) := ⟨Mur.below_drewN h.1 n, h.2.1, h.2.2.1, h.2.2.2.1, h.2.2.2.2.1, h.2.2.2.2.2⟩
theorem L6.set {w wr : World} {a b o : List Nat} (h : L6 w a b o wr) (k x : Nat) : L6 w a b (o.set k x) (wr.setCell ⟨w.heap.size + 1 + 1 + 1, k, none⟩ (.int .u64 (x : Int))) :=
 ⟨h.1.setCell (by simp; omega) _, by simpa using h.2.1, Mur.hp_set_ne h.2.2.1 _ _ _ (by omega), Mur.hp_set_ne h.2.2.2.1 _ _ _ (by omega), Mur.hp_set_ne h.2.2.2.2.1 _ _ _ (by omega), set_n64s h.2.2.2.2.2 x⟩
theorem hp_a4 (w : World) (A B C D : Obj) : ((((w.alloc A).alloc B).alloc C).alloc D).heap[w.heap.size + 1 + 1 + 1]? = some D := by
 have h := Mur.hp_a3 (w.alloc A) B C D
 rwa [World.size_alloc] at h
theorem inner_step {a b o : List Nat} {i k V0 carry x : Nat} (ho : o.length = 10) (hb : b.length = 10) (hik : i + k < 10) (hx : x = o.getD (i + k) 0 + a.getD i 0 * b.getD k 0 + carry)
  (h : Mur.val o + carry * 65536 ^ (i + k) = V0 + a.getD i 0 * Mur.val (b.take k) * 65536 ^ i) :
  Mur.val (o.set (i + k) (x % 65536)) + x / 65536 * 65536 ^ (i + (k + 1)) = V0 + a.getD i 0 * Mur.val (b.take (k + 1)) * 65536 ^ i := by
 have h1 := Mur.times_step o (i + k) x carry (a.getD i 0 * b.getD k 0) (by omega) hx
 rw [show i + (k + 1) = i + k + 1 by omega, h1, h, Mur.val_take_succ b k (by omega), Nat.mul_add, Nat.add_mul, Nat.pow_add]
 have e : a.getD i 0 * b.getD k 0 * (65536 ^ i * 65536 ^ k) = a.getD i 0 * (b.getD k 0 * 65536 ^ k) * 65536 ^ i := by
  simp only [Nat.mul_assoc, Nat.mul_comm (65536 ^ i)]
 omega
theorem outer_step {a b : List Nat} {i V0 v : Nat} (ha : a.length = 10) (hi : i < 10) (h0 : V0 % 65536 ^ 10 = (Mur.val (a.take i) * Mur.val b) % 65536 ^ 10)
  (h : v % 65536 ^ 10 = (V0 + a.getD i 0 * Mur.val b * 65536 ^ i) % 65536 ^ 10) : v % 65536 ^ 10 = (Mur.val (a.take (i + 1)) * Mur.val b) % 65536 ^ 10 := by
 rw [h, Mur.val_take_succ a i (by omega), Nat.add_mul, Nat.add_mod, h0, ← Nat.add_mod]
 congr 2
 simp only [Nat.mul_assoc, Nat.mul_comm (65536 ^ i)]
set_option maxHeartbeats 1000000
theorem times_any (a b : List Nat) (w : World) (ha : Dig a) (hb : Dig b) :
  Calls Tryz.prog 104 #[.agg (n64s a), .agg (n64s b)] w
   fun e w' => ∃ l, Hid (Mur.val l % 65536 ^ 10 = Mur.val a * Mur.val b % 65536 ^ 10) ∧ Dig l ∧ e = .returned (.agg (n64s l)) ∧ Below w.heap.size w w' := by
 have HA := Go.Lib.hid ha; clear ha
 have HB := Go.Lib.hid hb; clear hb
 go_enter Tryz.func104, Tryz.ntmps104
 go_wp2
 go_loopw [6] (fun v wr => ∃ (i : Nat) (o : List Nat), i ≤ 10 ∧ v = .int .i64 i ∧ Hid (Dig o) ∧ Hid (Mur.val o % 65536 ^ 10 = Mur.val (a.take i) * Mur.val b % 65536 ^ 10) ∧ L6 w a b o wr) (fun v _ => 10 - (intOf v).toNat)
 case atStart =>
  refine ⟨0, List.replicate 10 0, by omega, rfl, Go.Lib.hid ⟨rfl, by decide⟩, Go.Lib.hid ?_, (((Below.refl _ _).alloc (Nat.le_refl _) _).alloc (by simp) _).alloc (by simp; omega) _ |>.alloc (by simp; omega) _, by simp, ?_, ?_, ?_, ?_⟩
  ·rw [List.take_zero]; simp [Mur.val]
  ·exact Mur.hp_old (Mur.hp_old (Mur.hp_old (Mur.hp_a1 _ _) _) _) _
  ·exact Mur.hp_old (Mur.hp_old (Mur.hp_a2 _ _ _) _) _
  ·exact Mur.hp_old ((Mur.hp_a3 _ _ _ _).trans rfl) _
  ·exact (hp_a4 _ _ _ _ _).trans rfl
 case round =>
  obtain ⟨i, o, hi, rfl, hdo, hval, HL⟩ := hrel
  by_cases hlt : i < 10
  ·go_wp2
   go_loopw [7, 8] (fun cv kv wq => ∃ (k c : Nat) (q : List Nat), i + k ≤ 10 ∧ kv = .int .i64 k ∧ cv = .int .u64 (c : Int) ∧ c < 65536 ∧ Hid (Dig q) ∧ Hid (Mur.val q + c * 65536 ^ (i + k) = Mur.val o + a.getD i 0 * Mur.val (b.take k) * 65536 ^ i) ∧ L6 w a b q wq) (fun _ kv _ => 10 - i - (intOf kv).toNat)
   case atStart => exact ⟨0, 0, o, by omega, rfl, rfl, by omega, hdo, Go.Lib.hid (by simp [Mur.val]), HL⟩
   case round =>
    clear HL
    obtain ⟨k, c, q, hik, rfl, rfl, hc, hdq, hinv, HL⟩ := hrel
    by_cases hlt2 : i + k < 10
    ·have co := cell_n64s (i := i + k) HL.2.2.2.2.2 (by rw [hdq.out.1]; omega)
     have fo := Mur.free_row (i := i + k) HL.2.2.2.2.2
     have ca := cell_n64s (i := i) HL.2.2.1 (by rw [HA.out.1]; omega)
     have cb := cell_n64s (i := k) HL.2.2.2.1 (by rw [HB.out.1]; omega)
     have lo := getD_lt (by omega) hdq.out.2 (i + k)
     have la := getD_lt (by omega) HA.out.2 i
     have lb := getD_lt (by omega) HB.out.2 k
     obtain ⟨xo, ho⟩ : ∃ x, q.getD (i + k) 0 = x := ⟨_, rfl⟩
     obtain ⟨xa, hxa⟩ : ∃ x, a.getD i 0 = x := ⟨_, rfl⟩
     obtain ⟨xb, hxb⟩ : ∃ x, b.getD k 0 = x := ⟨_, rfl⟩
     rw [ho] at co lo
     rw [hxa] at ca la
     rw [hxb] at cb lb
     have HXO := Go.Lib.hid ho; clear ho
     have HXA := Go.Lib.hid hxa; clear hxa
     have HXB := Go.Lib.hid hxb; clear hxb
     have b0 : 0 ≤ (xa : Int) * (xb : Int) := Int.mul_nonneg (by omega) (by omega)
     have b1 : (xa : Int) * (xb : Int) ≤ 4294836225 := by
      have : xa * xb ≤ 65535 * 65535 := Nat.mul_le_mul (by omega) (by omega)
      have h : ((xa * xb : Nat) : Int) ≤ 4294836225 := by omega
      rwa [Int.natCast_mul] at h
     obtain ⟨X, HX⟩ : ∃ X : Nat, Hid ((X : Int) = (xo : Int) + (xa : Int) * (xb : Int) + (c : Int)) := ⟨xo + xa * xb + c, Go.Lib.hid (by rw [Int.natCast_add, Int.natCast_add, Int.natCast_mul])⟩
     have HXn : Hid (X = q.getD (i + k) 0 + a.getD i 0 * b.getD k 0 + c) := Go.Lib.hid (by
      have := HX.out
      rw [HXO.out, HXA.out, HXB.out]
      have h2 : ((xa * xb : Nat) : Int) = (xa : Int) * (xb : Int) := Int.natCast_mul _ _
      omega)
     have hXl : Hid (X < 4295032833) := Go.Lib.hid (by have := HX.out; omega)
     have hXr : (xo : Int) + (xa : Int) * (xb : Int) + (c : Int) = (X : Int) := HX.out.symm
     go_wp2
     go_quiet (fail)
     go_wp2
     refine ⟨⟨k + 1, X / 65536, q.set (i + k) (X % 65536), by omega, by go_num, by go_num, by have := hXl.out; omega, Go.Lib.hid (hdq.out.set _ _ (Nat.mod_lt _ (by omega))), Go.Lib.hid (inner_step hdq.out.1 HB.out.1 hlt2 HXn.out hinv.out), (HL.drewN _).set _ _⟩, by simp [intOf]; omega⟩
    ·obtain rfl : k = 10 - i := by omega
     have hrow : Hid (Mur.val q % 65536 ^ 10 = Mur.val (a.take (i + 1)) * Mur.val b % 65536 ^ 10) := Go.Lib.hid (by
      have h := hinv.out
      rw [show i + (10 - i) = 10 by omega] at h
      exact outer_step HA.out.1 hlt hval.out (Mur.times_row q a b i _ c (by omega) h))
     clear hinv hval
     go_wp2
     refine ⟨⟨i + 1, q, by omega, by go_num, hdq, hrow, HL⟩, by simp [intOf]; omega⟩
  ·obtain rfl : i = 10 := by omega
   have hres : Hid (Mur.val o % 65536 ^ 10 = Mur.val a * Mur.val b % 65536 ^ 10) := Go.Lib.hid (by
    have := hval.out
    rwa [List.take_of_length_le (by rw [HA.out.1]; exact Nat.le_refl _)] at this)
   clear hval
   have hz : Hid ((n64s o).size = 10) := Go.Lib.hid (by rw [n64s_size, hdo.out.1])
   go_wp2_with (first
    | (refine wpList_load_row rfl 143 (.tmp 5) rfl (w.heap.size + 1 + 1 + 1) rfl 143 (n64s o) (0, 0) _ HL.2.2.2.2.2 Tryz.underlying143 rfl (by rw [hz.out]; kernel_rfl) ?_)
    | (refine wpList_store_row rfl 143 (.tmp 4) (.tmp 43) rfl (w.heap.size + 1 + 1) (n64s o) rfl rfl 143 (n64s (List.replicate 10 0)) HL.2.2.2.2.1 (by rw [hz.out]; kernel_rfl) (by rw [hz.out]; rfl) (n64s_all _) ?_))
   refine bodyPost_ret (v := .agg (n64s o)) (results_cell_row rfl _ _ (w.heap.size + 1 + 1) 143 (n64s o) (0, 0) _ rfl (setRow_heap _ _ _ _ _ _ HL.2.2.2.2.1) Tryz.underlying143 rfl (by rw [hz.out]; kernel_rfl)) rfl ⟨o, hres, hdo.out, rfl, below_setRow HL.1 (by omega) _⟩
end Go.Proofs.YtgbadghjnpbiaaaGreatDoor
namespace Go.Proofs.YtgbadghjnpbiaaaGreatDoor
open Go.RowKit
theorem pow_lt3 {n power : Nat} (hn : n < 274877906944) (hp : power = 2 ∨ power = 3) : n ^ power < 65536 ^ 10 := by
 have h2 : n * n ≤ 274877906943 * 274877906943 := Nat.mul_le_mul (by omega) (by omega)
 rcases hp with rfl | rfl
 ·rw [Nat.pow_two]; omega
 ·rw [Nat.pow_succ, Nat.pow_two]
  have h3 : n * n * n ≤ 274877906943 * 274877906943 * 274877906943 := Nat.mul_le_mul h2 (by omega)
  omega
theorem val_zeros (c : Nat) : Mur.val (List.replicate c 0) = 0 := by
 induction c with
 | zero => rfl
 | succ c ih => rw [List.replicate_succ, Mur.val, ih]
def mostL (p power : Nat) : List Nat := (List.replicate 10 0).set (2 * power) p
theorem mostL_dig {p power : Nat} (hp : p < 65536) : Dig (mostL p power) := Dig.set ⟨rfl, by decide⟩ _ _ hp
theorem mostL_val {p power : Nat} (hp : power = 2 ∨ power = 3) : Mur.val (mostL p power) = p * 65536 ^ (2 * power) := by
 have h := Mur.val_set (List.replicate 10 0) (2 * power) p (by rw [List.length_replicate]; omega)
 have h0 : (List.replicate 10 0).getD (2 * power) 0 = 0 := by rcases hp with rfl | rfl <;> rfl
 rw [h0, val_zeros] at h
 unfold mostL
 omega
def R7 (w : World) (ml dl : List Nat) (D : Nat) (yl : List Nat) (Y : Nat) (wq : World) : Prop :=
 Below w.heap.size w wq ∧ wq.heap[w.heap.size]? = some (.cells (n64s ml) 143 (0, 0)) ∧ wq.heap[D]? = some (.cells (n64s dl) 143 (0, 0)) ∧ wq.heap[Y]? = some (.cells (n64s yl) 143 (0, 0)) ∧ w.heap.size < wq.heap.size
set_option maxRecDepth 100000
set_option maxHeartbeats 1000000
theorem root_2 (p : Nat) (w : World) (hp : p ≤ 400) :
  Calls Tryz.prog 90 #[.int .i64 (p : Int), .int .i64 2] w
   fun e w' => e = .returned (.int .u32 ((Mur.rootN p 2 : Nat) : Int)) ∧ Below w.heap.size w w' := by
 have hmd : Hid (Dig (mostL p 2)) := mostL_dig (by omega)
 have hmv : Hid (Mur.val (mostL p 2) = p * 65536 ^ (2 * 2)) := mostL_val (by decide)
 go_enter Tryz.func90, Tryz.ntmps90
 go_wp2
 obtain ⟨ml, hml⟩ : ∃ ml, Hid (ml = mostL p 2) := ⟨_, rfl⟩
 rw [← hml.out] at hmd hmv
 go_loopw [6, 7] (fun xv bv wr => ∃ m X bt : Nat, m ≤ 38 ∧ xv = .int .u64 (X : Int) ∧ bv = .int .u64 (bt : Int) ∧ Hid (bt = 2 ^ m / 2) ∧ bt ≤ 137438953472 ∧ X < 274877906944 ∧ Hid (X + 2 ^ m ≤ 274877906944) ∧ Hid (Mur.rootFrom p 2 m X = Mur.rootFrom p 2 38 0) ∧
   Below w.heap.size w wr ∧ w.heap.size < wr.heap.size ∧ wr.heap[w.heap.size]? = some (.cells (n64s ml) 143 (0, 0))) (fun _ bv _ => (intOf bv).toNat)
 case atStart =>
  refine ⟨38, 0, 137438953472, by omega, rfl, rfl, Go.Lib.hid (by decide), by omega, by omega, Go.Lib.hid (by decide), rfl, (Below.refl _ _).alloc (Nat.le_refl _) _, by simp, ?_⟩
  rw [hml.out]
  exact (Mur.hp_a1 _ _).trans rfl
 case round =>
  obtain ⟨m, X, bt, hm, rfl, rfl, hbt, hbl, hX, hXm, hroot, hB, hsz, hml0⟩ := hrel
  by_cases h0 : bt = 0
  ·have hm0 : Hid (m = 0) := Go.Lib.hid (by
    rcases Nat.eq_zero_or_pos m with h | h
    ·exact h
    ·have h1 := hbt.out
     have h2 : 2 ^ m = 2 ^ (m - 1) * 2 := by rw [← Nat.pow_succ]; congr 1; omega
     have h3 : 0 < 2 ^ (m - 1) := Nat.pow_pos (by omega)
     omega)
   have hres : Hid (X % 4294967296 = Mur.rootN p 2) := Go.Lib.hid (by
    have h := hroot.out
    rw [hm0.out] at h
    rw [Mur.rootN, ← h]
    rfl)
   subst h0
   go_wp2
   go_ret
   exact ⟨by rw [← hres.out]; rfl, hB⟩
  ·obtain ⟨q, rfl⟩ : ∃ q, m = q + 1 := ⟨m - 1, by
    have h1 := hbt.out
    rcases Nat.eq_zero_or_pos m with h | h
    ·subst h; simp at h1; omega
    ·omega⟩
   have hb2 : Hid (bt = 2 ^ q) := Go.Lib.hid (by rw [hbt.out, Nat.pow_succ]; omega)
   obtain ⟨N, hN⟩ : ∃ N, N = X + bt := ⟨_, rfl⟩
   have hNb : N < 274877906945 ∧ N ≤ 274877906944 - bt := by have := hXm.out; rw [Nat.pow_succ, ← hb2.out] at this; omega
   obtain ⟨hN1, hN2⟩ := hNb
   have hNe : (X : Int) + (bt : Int) = (N : Int) := by omega
   have HN := Go.Lib.hid hN; clear hN
   go_wp2_with (first
    | (go_at_call 103; refine (digits_any N wr (by omega)).mono ?_; rintro e w2 ⟨dl, hdl, hdl10, hdl6, rfl, hB2⟩; have hDl := Go.Lib.hid (And.intro hdl10 hdl6); clear hdl10 hdl6; have hDz := Go.Lib.hid ((n64s_size dl).trans hDl.out.1))
    | (refine Mur.wpList_put rfl 143 (.tmp 8) (.tmp 23) rfl w2.heap.size (n64s dl) rfl rfl 143 (n64s (List.replicate 10 0)) (Mur.hp_a1 _ _) (by rw [hDz.out]; kernel_rfl) (by rw [hDz.out]; rfl) (n64s_all _) ?_; intro w3 hp3 hw3; have hp3' := Go.Lib.hid hp3; clear hp3; have hz3 := hw3.size; rw [World.size_alloc] at hz3; have hZ3 := Go.Lib.hid hz3; clear hz3)
    | (refine wpList_load_row rfl 143 (.tmp 8) rfl w2.heap.size rfl 143 (n64s dl) (0, 0) _ hp3'.out Tryz.underlying143 rfl (by rw [hDz.out]; kernel_rfl) ?_)
    | (refine Mur.wpList_put rfl 143 (.tmp 9) (.tmp 24) rfl w3.heap.size (n64s dl) rfl rfl 143 (n64s (List.replicate 10 0)) (Mur.hp_a1 _ _) (by rw [hDz.out]; kernel_rfl) (by rw [hDz.out]; rfl) (n64s_all _) ?_; intro w4 hp4 hw4; have hp4' := Go.Lib.hid hp4; clear hp4; have hz4 := hw4.size; rw [World.size_alloc] at hz4; have hZ4 := Go.Lib.hid hz4; clear hz4))
   have hR : R7 w ml dl w2.heap.size dl w3.heap.size w4 := by
    have e3 := hZ3.out
    have e4 := hZ4.out
    have s2 := hB2.size
    refine ⟨?_, ?_, ?_, hp4'.out, by omega⟩
    ·refine (((hB.trans (hB2.mono (by omega))).alloc (by omega) _).trans (hw3.below (by omega))).alloc (by omega) _ |>.trans (hw4.below (by omega))
    ·exact hw4.hp (by omega) (Mur.hp_old (hw3.hp (by omega) (Mur.hp_old (Mur.hp_below hB2 hml0) _)) _)
    ·exact hw4.hp (by omega) (Mur.hp_old hp3'.out _)
   have hord : w.heap.size < w2.heap.size ∧ w2.heap.size < w3.heap.size := by have := hZ3.out; have := hB2.size; omega
   obtain ⟨hord1, hord2⟩ := hord
   obtain ⟨D, hD⟩ : ∃ D, D = w2.heap.size := ⟨_, rfl⟩
   obtain ⟨Y, hY⟩ : ∃ Y, Y = w3.heap.size := ⟨_, rfl⟩
   rw [← hD, ← hY] at hR
   rw [← hD] at hord1
   rw [← hD, ← hY] at hord2
   rw [← hD, ← hY]
   clear hD hY hp3' hp4' hZ3 hZ4 hw3 hw4 hB2 hml0 hsz hB
   go_loopw [10] (fun t wq => ∃ (k : Nat) (yl : List Nat), 1 ≤ k ∧ k ≤ 2 ∧ t = .int .i64 k ∧ Hid (Dig yl) ∧ Hid (Mur.val yl % 65536 ^ 10 = N ^ k % 65536 ^ 10) ∧ R7 w ml dl D yl Y wq) (fun t _ => 2 - (intOf t).toNat)
   case atStart =>
    refine ⟨1, dl, by omega, by omega, rfl, hDl, Go.Lib.hid ?_, hR⟩
    rw [hdl.out, Mur.val_dgs, Nat.pow_one, Nat.mod_mod]
   case round =>
    clear hR
    obtain ⟨k, yl, hk1, hk, rfl, hyd, hyv, hR⟩ := hrel
    have hyz : Hid ((n64s yl).size = 10) := Go.Lib.hid (by rw [n64s_size, hyd.out.1])
    by_cases hlt : k < 2
    ·go_wp2_with (first
      | (refine wpList_load_row rfl 143 (.tmp 9) rfl Y rfl 143 (n64s yl) (0, 0) _ hR.2.2.2.1 Tryz.underlying143 rfl (by rw [hyz.out]; kernel_rfl) ?_)
      | (refine wpList_load_row rfl 143 (.tmp 8) rfl D rfl 143 (n64s dl) (0, 0) _ hR.2.2.1 Tryz.underlying143 rfl (by rw [hDz.out]; kernel_rfl) ?_)
      | (go_at_call 104; refine (times_any yl dl wr hyd.out hDl.out).mono ?_; rintro e w5 ⟨l, hlv, hld, rfl, hB5⟩; have hLd := Go.Lib.hid hld; clear hld; have hLz := Go.Lib.hid ((n64s_size l).trans hLd.out.1))
      | (refine Mur.wpList_put rfl 143 (.tmp 9) (.tmp 32) rfl Y (n64s l) rfl rfl 143 (n64s yl) (Mur.hp_below hB5 hR.2.2.2.1) (by rw [hLz.out]; kernel_rfl) (by rw [hLz.out, hyz.out]) (n64s_all _) ?_; intro w6 hp6 hw6; have hp6' := Go.Lib.hid hp6; clear hp6))
     refine ⟨⟨k + 1, l, by omega, by omega, by go_num, hLd, Go.Lib.hid ?_, ?_⟩, by simp [intOf]; omega⟩
     ·have hdv : Mur.val dl = N % 65536 ^ 10 := by rw [hdl.out, Mur.val_dgs]
      rw [hlv.out, hdv, Nat.mul_mod, hyv.out, Nat.mod_mod, Nat.pow_succ]
      exact (Nat.mul_mod _ _ _).symm
     ·have hs := hR.2.2.2.2
      have s5 := hB5.size
      exact ⟨(hR.1.trans (hB5.mono (by omega))).trans (hw6.below (by omega)), hw6.hp (by omega) (Mur.hp_below hB5 hR.2.1), hw6.hp (by omega) (Mur.hp_below hB5 hR.2.2.1), hp6'.out, by rw [hw6.size]; omega⟩
    ·obtain rfl : k = 2 := by omega
     have hval : Hid (Mur.val yl = N ^ 2) := Go.Lib.hid (by
      have h1 := hyv.out
      have h2 := Mur.val_lt yl hyd.out.2
      rw [hyd.out.1] at h2
      rwa [Nat.mod_eq_of_lt h2, Nat.mod_eq_of_lt (pow_lt3 (by omega) (by decide))] at h1)
     by_cases hc : Mur.val ml < Mur.val yl
     ·have hT : decide (Mur.val ml < Mur.val yl) = true := by simpa using hc
      have hroot2 : Hid (Mur.rootFrom p 2 q X = Mur.rootFrom p 2 38 0) := Go.Lib.hid (by
       have h := hroot.out
       rw [hval.out, hmv.out, HN.out, hb2.out] at hc
       rw [← h, Mur.rootFrom, Mur.force_eq, if_neg (by omega)])
      clear hc
      go_wp2_with (first
       | (refine wpList_load_row rfl 143 (.tmp 9) rfl Y rfl 143 (n64s yl) (0, 0) _ hR.2.2.2.1 Tryz.underlying143 rfl (by rw [hyz.out]; kernel_rfl) ?_)
       | (refine wpList_load_row rfl 143 (.tmp 5) rfl w.heap.size rfl 143 (n64s ml) (0, 0) _ hR.2.1 Tryz.underlying143 rfl (by rw [n64s_size, hmd.out.1]; kernel_rfl) ?_)
       | (go_at_call 105; refine (above_any yl ml wr hyd.out.1 hmd.out.1 hyd.out.2 hmd.out.2).mono ?_; rintro e w7 ⟨rfl, hB7⟩))
      refine ⟨⟨q, X, bt / 2, by omega, rfl, by go_num, Go.Lib.hid (by rw [hb2.out]), by omega, by omega, Go.Lib.hid ?_, hroot2, ?_, ?_, ?_⟩, by simp [intOf]; omega⟩
      ·have := hXm.out; rw [Nat.pow_succ] at this; omega
      ·exact hR.1.trans (hB7.mono (by have := hR.2.2.2.2; omega))
      ·have := hR.2.2.2.2; have := hB7.size; omega
      ·exact Mur.hp_below hB7 hR.2.1
     ·have hT : decide (Mur.val ml < Mur.val yl) = false := by simpa using hc
      have hroot2 : Hid (Mur.rootFrom p 2 q N = Mur.rootFrom p 2 38 0) := Go.Lib.hid (by
       have h := hroot.out
       rw [hval.out, hmv.out, HN.out, hb2.out] at hc
       rw [← h, Mur.rootFrom, Mur.force_eq, if_pos (by omega), HN.out, hb2.out])
      clear hc
      go_wp2_with (first
       | (refine wpList_load_row rfl 143 (.tmp 9) rfl Y rfl 143 (n64s yl) (0, 0) _ hR.2.2.2.1 Tryz.underlying143 rfl (by rw [hyz.out]; kernel_rfl) ?_)
       | (refine wpList_load_row rfl 143 (.tmp 5) rfl w.heap.size rfl 143 (n64s ml) (0, 0) _ hR.2.1 Tryz.underlying143 rfl (by rw [n64s_size, hmd.out.1]; kernel_rfl) ?_)
       | (go_at_call 105; refine (above_any yl ml wr hyd.out.1 hmd.out.1 hyd.out.2 hmd.out.2).mono ?_; rintro e w7 ⟨rfl, hB7⟩))
      refine ⟨⟨q, N, bt / 2, by omega, by go_num, by go_num, Go.Lib.hid (by rw [hb2.out]), by omega, by omega, Go.Lib.hid ?_, hroot2, ?_, ?_, ?_⟩, by simp [intOf]; omega⟩
      ·have := hXm.out; rw [Nat.pow_succ] at this; have := HN.out; have := hb2.out; omega
      ·exact hR.1.trans (hB7.mono (by have := hR.2.2.2.2; omega))
      ·have := hR.2.2.2.2; have := hB7.size; omega
      ·exact Mur.hp_below hB7 hR.2.1
theorem root_3 (p : Nat) (w : World) (hp : p ≤ 400) :
  Calls Tryz.prog 90 #[.int .i64 (p : Int), .int .i64 3] w
   fun e w' => e = .returned (.int .u32 ((Mur.rootN p 3 : Nat) : Int)) ∧ Below w.heap.size w w' := by
 have hmd : Hid (Dig (mostL p 3)) := mostL_dig (by omega)
 have hmv : Hid (Mur.val (mostL p 3) = p * 65536 ^ (2 * 3)) := mostL_val (by decide)
 go_enter Tryz.func90, Tryz.ntmps90
 go_wp2
 obtain ⟨ml, hml⟩ : ∃ ml, Hid (ml = mostL p 3) := ⟨_, rfl⟩
 rw [← hml.out] at hmd hmv
 go_loopw [6, 7] (fun xv bv wr => ∃ m X bt : Nat, m ≤ 38 ∧ xv = .int .u64 (X : Int) ∧ bv = .int .u64 (bt : Int) ∧ Hid (bt = 2 ^ m / 2) ∧ bt ≤ 137438953472 ∧ X < 274877906944 ∧ Hid (X + 2 ^ m ≤ 274877906944) ∧ Hid (Mur.rootFrom p 3 m X = Mur.rootFrom p 3 38 0) ∧
   Below w.heap.size w wr ∧ w.heap.size < wr.heap.size ∧ wr.heap[w.heap.size]? = some (.cells (n64s ml) 143 (0, 0))) (fun _ bv _ => (intOf bv).toNat)
 case atStart =>
  refine ⟨38, 0, 137438953472, by omega, rfl, rfl, Go.Lib.hid (by decide), by omega, by omega, Go.Lib.hid (by decide), rfl, (Below.refl _ _).alloc (Nat.le_refl _) _, by simp, ?_⟩
  rw [hml.out]
  exact (Mur.hp_a1 _ _).trans rfl
 case round =>
  obtain ⟨m, X, bt, hm, rfl, rfl, hbt, hbl, hX, hXm, hroot, hB, hsz, hml0⟩ := hrel
  by_cases h0 : bt = 0
  ·have hm0 : Hid (m = 0) := Go.Lib.hid (by
    rcases Nat.eq_zero_or_pos m with h | h
    ·exact h
    ·have h1 := hbt.out
     have h2 : 2 ^ m = 2 ^ (m - 1) * 2 := by rw [← Nat.pow_succ]; congr 1; omega
     have h3 : 0 < 2 ^ (m - 1) := Nat.pow_pos (by omega)
     omega)
   have hres : Hid (X % 4294967296 = Mur.rootN p 3) := Go.Lib.hid (by
    have h := hroot.out
    rw [hm0.out] at h
    rw [Mur.rootN, ← h]
    rfl)
   subst h0
   go_wp2
   go_ret
   exact ⟨by rw [← hres.out]; rfl, hB⟩
  ·obtain ⟨q, rfl⟩ : ∃ q, m = q + 1 := ⟨m - 1, by
    have h1 := hbt.out
    rcases Nat.eq_zero_or_pos m with h | h
    ·subst h; simp at h1; omega
    ·omega⟩
   have hb2 : Hid (bt = 2 ^ q) := Go.Lib.hid (by rw [hbt.out, Nat.pow_succ]; omega)
   obtain ⟨N, hN⟩ : ∃ N, N = X + bt := ⟨_, rfl⟩
   have hNb : N < 274877906945 ∧ N ≤ 274877906944 - bt := by have := hXm.out; rw [Nat.pow_succ, ← hb2.out] at this; omega
   obtain ⟨hN1, hN2⟩ := hNb
   have hNe : (X : Int) + (bt : Int) = (N : Int) := by omega
   have HN := Go.Lib.hid hN; clear hN
   go_wp2_with (first
    | (go_at_call 103; refine (digits_any N wr (by omega)).mono ?_; rintro e w2 ⟨dl, hdl, hdl10, hdl6, rfl, hB2⟩; have hDl := Go.Lib.hid (And.intro hdl10 hdl6); clear hdl10 hdl6; have hDz := Go.Lib.hid ((n64s_size dl).trans hDl.out.1))
    | (refine Mur.wpList_put rfl 143 (.tmp 8) (.tmp 23) rfl w2.heap.size (n64s dl) rfl rfl 143 (n64s (List.replicate 10 0)) (Mur.hp_a1 _ _) (by rw [hDz.out]; kernel_rfl) (by rw [hDz.out]; rfl) (n64s_all _) ?_; intro w3 hp3 hw3; have hp3' := Go.Lib.hid hp3; clear hp3; have hz3 := hw3.size; rw [World.size_alloc] at hz3; have hZ3 := Go.Lib.hid hz3; clear hz3)
    | (refine wpList_load_row rfl 143 (.tmp 8) rfl w2.heap.size rfl 143 (n64s dl) (0, 0) _ hp3'.out Tryz.underlying143 rfl (by rw [hDz.out]; kernel_rfl) ?_)
    | (refine Mur.wpList_put rfl 143 (.tmp 9) (.tmp 24) rfl w3.heap.size (n64s dl) rfl rfl 143 (n64s (List.replicate 10 0)) (Mur.hp_a1 _ _) (by rw [hDz.out]; kernel_rfl) (by rw [hDz.out]; rfl) (n64s_all _) ?_; intro w4 hp4 hw4; have hp4' := Go.Lib.hid hp4; clear hp4; have hz4 := hw4.size; rw [World.size_alloc] at hz4; have hZ4 := Go.Lib.hid hz4; clear hz4))
   have hR : R7 w ml dl w2.heap.size dl w3.heap.size w4 := by
    have e3 := hZ3.out
    have e4 := hZ4.out
    have s2 := hB2.size
    refine ⟨?_, ?_, ?_, hp4'.out, by omega⟩
    ·refine (((hB.trans (hB2.mono (by omega))).alloc (by omega) _).trans (hw3.below (by omega))).alloc (by omega) _ |>.trans (hw4.below (by omega))
    ·exact hw4.hp (by omega) (Mur.hp_old (hw3.hp (by omega) (Mur.hp_old (Mur.hp_below hB2 hml0) _)) _)
    ·exact hw4.hp (by omega) (Mur.hp_old hp3'.out _)
   have hord : w.heap.size < w2.heap.size ∧ w2.heap.size < w3.heap.size := by have := hZ3.out; have := hB2.size; omega
   obtain ⟨hord1, hord2⟩ := hord
   obtain ⟨D, hD⟩ : ∃ D, D = w2.heap.size := ⟨_, rfl⟩
   obtain ⟨Y, hY⟩ : ∃ Y, Y = w3.heap.size := ⟨_, rfl⟩
   rw [← hD, ← hY] at hR
   rw [← hD] at hord1
   rw [← hD, ← hY] at hord2
   rw [← hD, ← hY]
   clear hD hY hp3' hp4' hZ3 hZ4 hw3 hw4 hB2 hml0 hsz hB
   go_loopw [10] (fun t wq => ∃ (k : Nat) (yl : List Nat), 1 ≤ k ∧ k ≤ 3 ∧ t = .int .i64 k ∧ Hid (Dig yl) ∧ Hid (Mur.val yl % 65536 ^ 10 = N ^ k % 65536 ^ 10) ∧ R7 w ml dl D yl Y wq) (fun t _ => 3 - (intOf t).toNat)
   case atStart =>
    refine ⟨1, dl, by omega, by omega, rfl, hDl, Go.Lib.hid ?_, hR⟩
    rw [hdl.out, Mur.val_dgs, Nat.pow_one, Nat.mod_mod]
   case round =>
    clear hR
    obtain ⟨k, yl, hk1, hk, rfl, hyd, hyv, hR⟩ := hrel
    have hyz : Hid ((n64s yl).size = 10) := Go.Lib.hid (by rw [n64s_size, hyd.out.1])
    by_cases hlt : k < 3
    ·go_wp2_with (first
      | (refine wpList_load_row rfl 143 (.tmp 9) rfl Y rfl 143 (n64s yl) (0, 0) _ hR.2.2.2.1 Tryz.underlying143 rfl (by rw [hyz.out]; kernel_rfl) ?_)
      | (refine wpList_load_row rfl 143 (.tmp 8) rfl D rfl 143 (n64s dl) (0, 0) _ hR.2.2.1 Tryz.underlying143 rfl (by rw [hDz.out]; kernel_rfl) ?_)
      | (go_at_call 104; refine (times_any yl dl wr hyd.out hDl.out).mono ?_; rintro e w5 ⟨l, hlv, hld, rfl, hB5⟩; have hLd := Go.Lib.hid hld; clear hld; have hLz := Go.Lib.hid ((n64s_size l).trans hLd.out.1))
      | (refine Mur.wpList_put rfl 143 (.tmp 9) (.tmp 32) rfl Y (n64s l) rfl rfl 143 (n64s yl) (Mur.hp_below hB5 hR.2.2.2.1) (by rw [hLz.out]; kernel_rfl) (by rw [hLz.out, hyz.out]) (n64s_all _) ?_; intro w6 hp6 hw6; have hp6' := Go.Lib.hid hp6; clear hp6))
     refine ⟨⟨k + 1, l, by omega, by omega, by go_num, hLd, Go.Lib.hid ?_, ?_⟩, by simp [intOf]; omega⟩
     ·have hdv : Mur.val dl = N % 65536 ^ 10 := by rw [hdl.out, Mur.val_dgs]
      rw [hlv.out, hdv, Nat.mul_mod, hyv.out, Nat.mod_mod, Nat.pow_succ]
      exact (Nat.mul_mod _ _ _).symm
     ·have hs := hR.2.2.2.2
      have s5 := hB5.size
      exact ⟨(hR.1.trans (hB5.mono (by omega))).trans (hw6.below (by omega)), hw6.hp (by omega) (Mur.hp_below hB5 hR.2.1), hw6.hp (by omega) (Mur.hp_below hB5 hR.2.2.1), hp6'.out, by rw [hw6.size]; omega⟩
    ·obtain rfl : k = 3 := by omega
     have hval : Hid (Mur.val yl = N ^ 3) := Go.Lib.hid (by
      have h1 := hyv.out
      have h2 := Mur.val_lt yl hyd.out.2
      rw [hyd.out.1] at h2
      rwa [Nat.mod_eq_of_lt h2, Nat.mod_eq_of_lt (pow_lt3 (by omega) (by decide))] at h1)
     by_cases hc : Mur.val ml < Mur.val yl
     ·have hT : decide (Mur.val ml < Mur.val yl) = true := by simpa using hc
      have hroot2 : Hid (Mur.rootFrom p 3 q X = Mur.rootFrom p 3 38 0) := Go.Lib.hid (by
       have h := hroot.out
       rw [hval.out, hmv.out, HN.out, hb2.out] at hc
       rw [← h, Mur.rootFrom, Mur.force_eq, if_neg (by omega)])
      clear hc
      go_wp2_with (first
       | (refine wpList_load_row rfl 143 (.tmp 9) rfl Y rfl 143 (n64s yl) (0, 0) _ hR.2.2.2.1 Tryz.underlying143 rfl (by rw [hyz.out]; kernel_rfl) ?_)
       | (refine wpList_load_row rfl 143 (.tmp 5) rfl w.heap.size rfl 143 (n64s ml) (0, 0) _ hR.2.1 Tryz.underlying143 rfl (by rw [n64s_size, hmd.out.1]; kernel_rfl) ?_)
       | (go_at_call 105; refine (above_any yl ml wr hyd.out.1 hmd.out.1 hyd.out.2 hmd.out.2).mono ?_; rintro e w7 ⟨rfl, hB7⟩))
      refine ⟨⟨q, X, bt / 2, by omega, rfl, by go_num, Go.Lib.hid (by rw [hb2.out]), by omega, by omega, Go.Lib.hid ?_, hroot2, ?_, ?_, ?_⟩, by simp [intOf]; omega⟩
      ·have := hXm.out; rw [Nat.pow_succ] at this; omega
      ·exact hR.1.trans (hB7.mono (by have := hR.2.2.2.2; omega))
      ·have := hR.2.2.2.2; have := hB7.size; omega
      ·exact Mur.hp_below hB7 hR.2.1
     ·have hT : decide (Mur.val ml < Mur.val yl) = false := by simpa using hc
      have hroot2 : Hid (Mur.rootFrom p 3 q N = Mur.rootFrom p 3 38 0) := Go.Lib.hid (by
       have h := hroot.out
       rw [hval.out, hmv.out, HN.out, hb2.out] at hc
       rw [← h, Mur.rootFrom, Mur.force_eq, if_pos (by omega), HN.out, hb2.out])
      clear hc
      go_wp2_with (first
       | (refine wpList_load_row rfl 143 (.tmp 9) rfl Y rfl 143 (n64s yl) (0, 0) _ hR.2.2.2.1 Tryz.underlying143 rfl (by rw [hyz.out]; kernel_rfl) ?_)
       | (refine wpList_load_row rfl 143 (.tmp 5) rfl w.heap.size rfl 143 (n64s ml) (0, 0) _ hR.2.1 Tryz.underlying143 rfl (by rw [n64s_size, hmd.out.1]; kernel_rfl) ?_)
       | (go_at_call 105; refine (above_any yl ml wr hyd.out.1 hmd.out.1 hyd.out.2 hmd.out.2).mono ?_; rintro e w7 ⟨rfl, hB7⟩))
      refine ⟨⟨q, N, bt / 2, by omega, by go_num, by go_num, Go.Lib.hid (by rw [hb2.out]), by omega, by omega, Go.Lib.hid ?_, hroot2, ?_, ?_, ?_⟩, by simp [intOf]; omega⟩
      ·have := hXm.out; rw [Nat.pow_succ] at this; have := HN.out; have := hb2.out; omega
      ·exact hR.1.trans (hB7.mono (by have := hR.2.2.2.2; omega))
      ·have := hR.2.2.2.2; have := hB7.size; omega
      ·exact Mur.hp_below hB7 hR.2.1
end Go.Proofs.YtgbadghjnpbiaaaGreatDoor
namespace Go.Proofs.YtgbadghjnpbiaaaGreatDoor
open Go.RowKit
open Mur (w32 u32s)
def ints (l : List Nat) : List Value := l.map fun x : Nat => Value.int .i64 (x : Int)
theorem ints_get (l : List Nat) (j : Nat) (h : j < l.length) : (ints l)[j]? = some (.int .i64 ((l.getD j 0 : Nat) : Int)) := by
 simp [ints, h, List.getD_eq_getElem?_getD]
theorem primesTo_succ (n : Nat) : Mur.primesTo (n + 1) = Mur.primesTo n ++ (if Mur.primeB n = true then [n] else []) := by
 unfold Mur.primesTo
 rw [List.range_succ, List.filter_append]
 congr 1
 by_cases h : Mur.primeB n = true
 ·simp [h]
 ·simp [h]
theorem primesTo_le {n m : Nat} (h : n ≤ m) : ∃ l, Mur.primesTo m = Mur.primesTo n ++ l := by
 obtain ⟨d, rfl⟩ : ∃ d, m = n + d := ⟨m - n, by omega⟩
 induction d with
 | zero => exact ⟨[], by simp⟩
 | succ d ih =>
  obtain ⟨l, hl⟩ := ih (by omega)
  exact ⟨l ++ (if Mur.primeB (n + d) = true then [n + d] else []), by rw [← Nat.add_assoc, primesTo_succ, hl, List.append_assoc]⟩
theorem primes_full {n : Nat} (h : n ≤ 312) (hl : (Mur.primesTo n).length = 64) : Mur.primesTo n = Mur.primesTo 312 := by
 obtain ⟨l, e⟩ := primesTo_le h
 have h1 := Mur.primes_64
 rw [e, List.length_append, hl] at h1
 have : l = [] := List.eq_nil_of_length_eq_zero (by omega)
 rw [e, this, List.append_nil]
set_option maxRecDepth 100000
theorem primes_any (w : World) : Calls Tryz.prog 89 #[.int .i64 64] w
  fun e w' => ∃ g cap, e = .returned (.slice (some ⟨g, 0, none⟩) 64 cap) ∧ w.heap.size ≤ g ∧ (∀ j, j < 64 → w'.cell? ⟨g, j, none⟩ = some (.int .i64 (((Mur.primesTo 312).getD j 0 : Nat) : Int))) ∧ Below w.heap.size w w' := by
 go_enter Tryz.func89, Tryz.ntmps89
 go_wp2
 go_loopw [3, 4] (fun v t wr => ∃ (n N : Nat) (L : List Nat) (A : Option Addr) (c : Nat), 2 ≤ n ∧ n ≤ 312 ∧ t = .int .i64 n ∧ Hid (L = Mur.primesTo n) ∧ v = .slice A N c ∧ N ≤ 64 ∧ Hid (L.length = N) ∧ wr.ownsRow w.heap.size 3 1 (.slice A N c) N (ints L) ∧ Below w.heap.size w wr)
  (fun _ t _ => 312 - (intOf t).toNat)
 case atStart =>
  refine ⟨2, 0, [], none, 0, by omega, by omega, rfl, Go.Lib.hid (by decide), rfl, by omega, rfl, World.ownsRow_nil _ _ _ _, Below.refl _ _⟩
 case round =>
  obtain ⟨n, N, L, A, c, hn2, hn, rfl, hL, rfl, hN, hLN, HO, HB⟩ := hrel
  have hsz := HB.size
  by_cases hlt : N < 64
  ·have hn3 : n < 312 := by
    rcases Nat.lt_or_ge n 312 with h | h
    ·exact h
    ·have h1 := Mur.primes_64
     have : n = 312 := by omega
     rw [← this, ← hL.out, hLN.out] at h1
     omega
   by_cases hp : Mur.primeB n = true
   ·have HP := Go.Lib.hid hp; clear hp
    go_wp2_with (first
     | (go_at_call 102; refine (prime_any n wr (by omega)).mono ?_; rintro e w2 ⟨rfl, rfl⟩; rw [HP.out])
     | (at_builtin; refine Mur.wpList_append_box (w0 := wr) w.heap.size rfl (.tmp 13) (.tmp 15) 115 3 (.int .i64 0) 8 rfl Tryz.underlying115 (by kernel_rfl) rfl (by omega) (.slice A N c) N (ints L) (.int .i64 (n : Int)) rfl rfl rfl HO (Below.refl _ _) hsz (by omega) ?_; intro v1 w1 HO1 HB1 hg1 hat1))
    obtain ⟨A5, c5, rfl⟩ : ∃ A c, v1 = .slice A (N + 1) c := by
     rcases HO1.2 with ⟨_, h⟩ | ⟨g, cap, cur, rfl, _⟩
     ·omega
     ·exact ⟨_, _, rfl⟩
    refine ⟨⟨n + 1, N + 1, L ++ [n], A5, c5, by omega, by omega, by go_num, Go.Lib.hid ?_, rfl, by omega, Go.Lib.hid (by rw [List.length_append, hLN.out]; rfl), ?_, HB.trans HB1⟩, by simp [intOf]; omega⟩
    ·rw [primesTo_succ, HP.out, hL.out, if_pos rfl]
    ·simpa [ints] using HO1
   ·have hp' : Mur.primeB n = false := by simpa using hp
    have HP := Go.Lib.hid hp'; clear hp hp'
    go_wp2_with (go_at_call 102; refine (prime_any n wr (by omega)).mono ?_; rintro e w2 ⟨rfl, rfl⟩; rw [HP.out])
    refine ⟨⟨n + 1, N, L, A, c, by omega, by omega, by go_num, Go.Lib.hid ?_, rfl, by omega, hLN, HO, HB⟩, by simp [intOf]; omega⟩
    rw [primesTo_succ, HP.out, hL.out]
    simp
  ·obtain rfl : N = 64 := by omega
   have hfull : Hid (L = Mur.primesTo 312) := Go.Lib.hid (by
    rw [hL.out]
    exact primes_full hn (by rw [← hL.out]; exact hLN.out))
   go_wp2
   go_ret
   rcases HO.2 with ⟨_, h⟩ | ⟨g, cap, cur, hv, hg, _⟩
   ·omega
   ·have hc := HO.cells (g := g) (by rw [hv]; rfl)
    refine ⟨g, cap, ?_, hg, fun j hj => ?_, HB⟩
    ·rw [← hv]; rfl
    ·have := hc j _ (ints_get L j (by rw [hLN.out]; exact hj))
     rwa [Addr.add_mid, Nat.zero_add, hfull.out] at this
/-! Words -/
def rowTo (l : List UInt32) (n i : Nat) : List UInt32 := l.take i ++ List.replicate (n - i) 0
theorem rowTo_succ {l : List UInt32} {n i : Nat} (hl : l.length = n) (h : i < n) : rowTo l n (i + 1) = (rowTo l n i).set i (l.getD i 0) := by
 have hq : i < l.length := by omega
 have hlt : (l.take i).length = i := by rw [List.length_take]; omega
 have hg : l.getD i 0 = l[i] := by rw [List.getD_eq_getElem?_getD, List.getElem?_eq_getElem hq]; rfl
 rw [rowTo, rowTo, List.take_succ_eq_append_getElem hq, hg, show n - i = (n - (i + 1)) + 1 by omega, List.replicate_succ, List.set_append_right _ _ (by omega), hlt, Nat.sub_self, List.set_cons_zero, List.append_assoc]
 rfl
theorem rowTo_all {l : List UInt32} {n i : Nat} (hl : l.length = n) (h : n ≤ i) : rowTo l n i = l := by
 rw [rowTo, List.take_of_length_le (by omega), show n - i = 0 by omega, List.replicate_zero, List.append_nil]
theorem rowTo_length {l : List UInt32} {n i : Nat} (hl : l.length = n) : (rowTo l n i).length = n := by simp [rowTo, hl]; omega
theorem P_le (i : Nat) (_ : i < 64) : (Mur.primesTo 312).getD i 0 ≤ 400 := by
 have hm : ∀ x ∈ Mur.primesTo 312, x < 401 := by
  intro x hx
  have := List.mem_range.1 (List.mem_filter.1 hx).1
  omega
 have := getD_lt (by omega) hm i
 omega
theorem root_k (i : Nat) (h : i < 64) : ((Mur.rootN ((Mur.primesTo 312).getD i 0) 3 : Nat) : Int) = w32 (Mur.K.getD i 0) := by
 have h1 := Mur.roots_3
 rw [Mur.KN_eq] at h1
 have h2 := congrArg (fun l => l[i]?) h1
 simp only [List.getElem?_map] at h2
 have h3 : i < (Mur.primesTo 312).length := by rw [Mur.primes_64]; exact h
 have h4 : i < Mur.K.length := by rw [Mur.K_length]; exact h
 rw [List.getElem?_eq_getElem h3, List.getElem?_eq_getElem h4, Option.map_some, Option.map_some, Option.some.injEq] at h2
 rw [List.getD_eq_getElem?_getD, List.getD_eq_getElem?_getD, List.getElem?_eq_getElem h3, List.getElem?_eq_getElem h4, Option.getD_some, Option.getD_some, h2]
 rfl
theorem root_h (i : Nat) (h : i < 8) : ((Mur.rootN ((Mur.primesTo 312).getD i 0) 2 : Nat) : Int) = w32 (Mur.H0.toList.getD i 0) := by
 have h1 := Mur.roots_2
 have h0 : Mur.H0N = Mur.H0.toList.map UInt32.toNat := by decide
 rw [h0] at h1
 have h2 := congrArg (fun l => l[i]?) h1
 simp only [List.getElem?_map, List.getElem?_take, h, if_true] at h2
 have h3 : i < (Mur.primesTo 312).length := by rw [Mur.primes_64]; omega
 have h4 : i < Mur.H0.toList.length := by show i < 8; exact h
 rw [List.getElem?_eq_getElem h3, List.getElem?_eq_getElem h4, Option.map_some, Option.map_some, Option.some.injEq] at h2
 rw [List.getD_eq_getElem?_getD, List.getD_eq_getElem?_getD, List.getElem?_eq_getElem h3, List.getElem?_eq_getElem h4, Option.getD_some, Option.getD_some, h2]
 rfl
theorem rootk_any (i p : Nat) (w : World) (h : i < 64) (hp : (Mur.primesTo 312).getD i 0 = p) : Calls Tryz.prog 90 #[.int .i64 (p : Int), .int .i64 3] w
  fun e w' => e = .returned (.int .u32 (w32 (Mur.K.getD i 0))) ∧ Below w.heap.size w w' := by
 subst hp
 refine (root_3 _ w (P_le i h)).mono ?_
 rintro e w' ⟨rfl, hb⟩
 exact ⟨by rw [root_k i h], hb⟩
theorem rooth_any (i p : Nat) (w : World) (h : i < 8) (hp : (Mur.primesTo 312).getD i 0 = p) : Calls Tryz.prog 90 #[.int .i64 (p : Int), .int .i64 2] w
  fun e w' => e = .returned (.int .u32 (w32 (Mur.H0.toList.getD i 0))) ∧ Below w.heap.size w w' := by
 subst hp
 refine (root_2 _ w (P_le i (by omega))).mono ?_
 rintro e w' ⟨rfl, hb⟩
 exact ⟨by rw [root_h i h], hb⟩
def pick (i : Nat) (m : Int) : UInt32 := if m = 3 then Mur.K.getD i 0 else Mur.H0.toList.getD i 0
theorem rootp_any (i p : Nat) (m : Int) (w : World) (h : (m = 3 ∧ i < 64) ∨ (m = 2 ∧ i < 8)) (hp : (Mur.primesTo 312).getD i 0 = p) : Calls Tryz.prog 90 #[.int .i64 (p : Int), .int .i64 m] w
  fun e w' => e = .returned (.int .u32 (w32 (pick i m))) ∧ Below w.heap.size w w' := by
 rcases h with ⟨rfl, h⟩ | ⟨rfl, h⟩
 ·exact rootk_any i p w h hp
 ·exact rooth_any i p w h hp
def L8 (w : World) (g : Nat) (hl kl : List UInt32) (wr : World) : Prop :=
 Below w.heap.size w wr ∧ w.heap.size + 4 ≤ wr.heap.size ∧ wr.heap[w.heap.size]? = some (.cells (u32s (List.replicate 8 0)) 101 (0, 0)) ∧ wr.heap[w.heap.size + 1]? = some (.cells (u32s (List.replicate 64 0)) 102 (0, 0)) ∧
 wr.heap[w.heap.size + 1 + 1]? = some (.cells (u32s hl) 101 (0, 0)) ∧ wr.heap[w.heap.size + 1 + 1 + 1]? = some (.cells (u32s kl) 102 (0, 0)) ∧
 (∀ j, j < 64 → wr.cell? ⟨g, j, none⟩ = some (.int .i64 (((Mur.primesTo 312).getD j 0 : Nat) : Int)))
theorem L8.below {w wr w1 : World} {g : Nat} {hl kl : List UInt32} (h : L8 w g hl kl wr) (hb : Below wr.heap.size wr w1) : L8 w g hl kl w1 := by
 obtain ⟨h0, h1, h2, h3, h4, h5, h6⟩ := h
 exact ⟨h0.trans (hb.mono (by omega)), Nat.le_trans h1 hb.size, Mur.hp_below hb h2, Mur.hp_below hb h3, Mur.hp_below hb h4, Mur.hp_below hb h5, fun j hj => Mur.cell_below hb (h6 j hj)⟩
theorem L8.drewN {w wr : World} {g : Nat} {hl kl : List UInt32} (h : L8 w g hl kl wr) (n : Nat) : L8 w g hl kl (wr.drewN n) := ⟨Mur.below_drewN h.1 n, h.2.1, h.2.2.1, h.2.2.2.1, h.2.2.2.2.1, h.2.2.2.2.2.1, h.2.2.2.2.2.2⟩
theorem cell_set_ne {w : World} {a : Addr} {v u : Value} (b i : Nat) (h : w.cell? a = some v) (hne : a.block ≠ b) : (w.setCell ⟨b, i, none⟩ u).cell? a = some v := by
 rw [World.cell?_setCell_other w ⟨b, i, none⟩ a u (fun e => hne (by rw [← e]))]
 exact h
theorem L8.setK {w wr : World} {g : Nat} {hl kl : List UInt32} (h : L8 w g hl kl wr) (hg : w.heap.size + 4 ≤ g) (k : Nat) (x : UInt32) : L8 w g hl (kl.set k x) (wr.setCell ⟨w.heap.size + 1 + 1 + 1, k, none⟩ (.int .u32 (w32 x))) := by
 obtain ⟨h0, h1, h2, h3, h4, h5, h6⟩ := h
 exact ⟨h0.setCell (by simp; omega) _, by simpa using h1, Mur.hp_set_ne h2 _ _ _ (by omega), Mur.hp_set_ne h3 _ _ _ (by omega), Mur.hp_set_ne h4 _ _ _ (by omega), Mur.set_u32s h5 x, fun j hj => cell_set_ne _ _ (h6 j hj) (by show g ≠ _; omega)⟩
theorem L8.setH {w wr : World} {g : Nat} {hl kl : List UInt32} (h : L8 w g hl kl wr) (hg : w.heap.size + 4 ≤ g) (k : Nat) (x : UInt32) : L8 w g (hl.set k x) kl (wr.setCell ⟨w.heap.size + 1 + 1, k, none⟩ (.int .u32 (w32 x))) := by
 obtain ⟨h0, h1, h2, h3, h4, h5, h6⟩ := h
 exact ⟨h0.setCell (by simp; omega) _, by simpa using h1, Mur.hp_set_ne h2 _ _ _ (by omega), Mur.hp_set_ne h3 _ _ _ (by omega), Mur.set_u32s h4 x, Mur.hp_set_ne h5 _ _ _ (by omega), fun j hj => cell_set_ne _ _ (h6 j hj) (by show g ≠ _; omega)⟩
set_option maxHeartbeats 1000000
theorem words_any (w : World) : Calls Tryz.prog 66 #[] w
  fun e w' => e = .returned (.tuple #[.agg (u32s Mur.H0.toList), .agg (u32s Mur.K)]) ∧ Below w.heap.size w w' := by
 have hH : Mur.H0.toList.length = 8 := rfl
 have HH := Go.Lib.hid hH; clear hH
 have HK := Go.Lib.hid Mur.K_length
 go_enter Tryz.func66, Tryz.ntmps66
 go_wp2_with (go_at_call 89; refine (primes_any _).mono ?_; rintro e w2 ⟨g, cap, rfl, hg, hpc, hB2⟩; have HPC := Go.Lib.hid hpc; clear hpc)
 have HL0 : Hid (L8 w g (rowTo Mur.H0.toList 8 0) (rowTo Mur.K 64 0) w2) := Go.Lib.hid (by
  refine ⟨((((Below.refl _ _).alloc (Nat.le_refl _) _).alloc (by simp) _).alloc (by simp; omega) _ |>.alloc (by simp; omega) _).trans (hB2.mono (by simp; omega)), by have := hB2.size; simp at this; omega, ?_, ?_, ?_, ?_, HPC.out⟩
  ·exact Mur.hp_below hB2 (Mur.hp_old (Mur.hp_old (Mur.hp_old (Mur.hp_a1 _ _) _) _) _)
  ·exact Mur.hp_below hB2 ((Mur.hp_old (Mur.hp_old (Mur.hp_a2 _ _ _) _) _).trans rfl)
  ·exact Mur.hp_below hB2 (Mur.hp_old ((Mur.hp_a3 _ _ _ _).trans rfl) _)
  ·exact Mur.hp_below hB2 ((hp_a4 _ _ _ _ _).trans rfl))
 have hg4 : w.heap.size + 4 ≤ g := by simp at hg; omega
 clear hg hB2 HPC
 go_loopw [5] (fun t wr => ∃ i : Nat, i ≤ 64 ∧ t = .int .i64 i ∧ L8 w g (rowTo Mur.H0.toList 8 i) (rowTo Mur.K 64 i) wr) (fun t _ => 64 - (intOf t).toNat)
 case atStart => exact ⟨0, by omega, rfl, HL0.out⟩
 case round =>
  clear HL0
  obtain ⟨i, hi, rfl, HL⟩ := hrel
  by_cases hlt : i < 64
  ·have cp := HL.2.2.2.2.2.2 i hlt
   obtain ⟨p, hp⟩ : ∃ p, (Mur.primesTo 312).getD i 0 = p := ⟨_, rfl⟩
   rw [hp] at cp
   have HP := Go.Lib.hid hp; clear hp
   by_cases h8 : i < 8
   ·go_wp2_with fail
    refine (rootp_any i p _ wr (by omega) HP.out).mono ?_
    rintro e w3 ⟨rfl, hB3⟩
    have HL3 := HL.below hB3
    have ck := Mur.cell_u32s (i := i) HL3.2.2.2.2.2.1 (by rw [rowTo_length HK.out]; exact hlt)
    have fk := Mur.free_row (i := i) HL3.2.2.2.2.2.1
    have cp3 := Mur.cell_below hB3 cp
    have cp4 := cell_set_ne (u := .int .u32 (w32 (pick i 3))) (w.heap.size + 1 + 1 + 1) i cp3 (by show g ≠ _; omega)
    have HL4 := HL3.setK hg4 i (pick i 3)
    go_wp2_with fail
    refine (rootp_any i p _ _ (by omega) HP.out).mono ?_
    rintro e w5 ⟨rfl, hB5⟩
    have HL5 := HL4.below hB5
    have ch := Mur.cell_u32s (i := i) HL5.2.2.2.2.1 (by rw [rowTo_length HH.out]; exact h8)
    have fh := Mur.free_row (i := i) HL5.2.2.2.2.1
    clear ck fk cp3 cp4
    go_wp2
    refine ⟨⟨i + 1, by omega, by go_num, ?_⟩, by simp [intOf]; omega⟩
    rw [rowTo_succ HH.out h8, rowTo_succ HK.out hlt]
    exact HL5.setH hg4 i (pick i 2)
   ·go_wp2_with fail
    refine (rootp_any i p _ wr (by omega) HP.out).mono ?_
    rintro e w3 ⟨rfl, hB3⟩
    have HL3 := HL.below hB3
    have ck := Mur.cell_u32s (i := i) HL3.2.2.2.2.2.1 (by rw [rowTo_length HK.out]; exact hlt)
    have fk := Mur.free_row (i := i) HL3.2.2.2.2.2.1
    go_wp2
    refine ⟨⟨i + 1, by omega, by go_num, ?_⟩, by simp [intOf]; omega⟩
    have e : rowTo Mur.H0.toList 8 (i + 1) = rowTo Mur.H0.toList 8 i := by rw [rowTo_all HH.out (by omega), rowTo_all HH.out (by omega)]
    rw [e, rowTo_succ HK.out hlt]
    exact HL3.setK hg4 i (pick i 3)
  ·obtain rfl : i = 64 := by omega
   rw [rowTo_all HH.out (by omega), rowTo_all HK.out (by omega)] at HL
   have hzH : Hid ((u32s Mur.H0.toList).size = 8) := Go.Lib.hid rfl
   have hzK : Hid ((u32s Mur.K).size = 64) := Go.Lib.hid (by simp [u32s, HK.out])
   have HK2 : Hid ((u32s (List.replicate 64 0)).size = 64) := Go.Lib.hid (by simp [u32s])
   go_wp2
   have HLd : L8 w g Mur.H0.toList Mur.K wr.drew := HL.drewN 1
   refine wp_region_held (S := fun w' => w'.heap[w.heap.size + 1 + 1]? = some (.cells (u32s Mur.H0.toList) 101 (0, 0)) ∧ w'.heap[w.heap.size + 1 + 1 + 1]? = some (.cells (u32s Mur.K) 102 (0, 0))) (by kernel_rfl) ?_
   refine wpAnyH_take (i := 0) (v := .agg (u32s Mur.H0.toList)) rfl (by kernel_rfl) (by kernel_rfl) (by kernel_rfl) (fun _ _ _ h => h)
    (Mur.yieldsIf_load_row rfl 101 (.tmp 2) rfl (w.heap.size + 1 + 1) rfl 101 (u32s Mur.H0.toList) (0, 0) _ (fun _ h => h.1) Tryz.underlying101 rfl (by rw [hzH.out]; kernel_rfl)) ⟨HLd.2.2.2.2.1, HLd.2.2.2.2.2.1⟩ ?_
   refine wpAnyH_take (i := 1) (v := .agg (u32s Mur.K)) rfl (by kernel_rfl) (by kernel_rfl) (by kernel_rfl) (fun _ _ _ h => h)
    (Mur.yieldsIf_load_row rfl 102 (.tmp 3) rfl (w.heap.size + 1 + 1 + 1) rfl 102 (u32s Mur.K) (0, 0) _ (fun _ h => h.2) Tryz.underlying102 rfl (by rw [hzK.out]; kernel_rfl)) ⟨HLd.2.2.2.2.1, HLd.2.2.2.2.2.1⟩ ?_
   refine Mur.wpAnyH_one (k := 2) (by kernel_rfl) ?_
   refine Mur.wpOp_put rfl rfl 101 (.tmp 0) (.tmp 27) rfl w.heap.size (u32s Mur.H0.toList) rfl rfl 101 (u32s (List.replicate 8 0)) HLd.2.2.1 (by rw [hzH.out]; kernel_rfl) (by rw [hzH.out]; rfl) (Mur.oneCells _) ?_
   intro w7 hp7 hw7
   refine ⟨⟨hw7.hp (by omega) HLd.2.2.2.2.1, hw7.hp (by omega) HLd.2.2.2.2.2.1⟩, ?_⟩
   refine Mur.wpAnyH_one (k := 3) (by kernel_rfl) ?_
   refine Mur.wpOp_put rfl rfl 102 (.tmp 1) (.tmp 28) rfl (w.heap.size + 1) (u32s Mur.K) rfl rfl 102 (u32s (List.replicate 64 0)) (hw7.hp (by omega) HLd.2.2.2.1) (by rw [hzK.out]; kernel_rfl) (by rw [hzK.out, HK2.out]) (Mur.oneCells _) ?_
   intro w8 hp8 hw8
   refine ⟨⟨hw8.hp (by omega) (hw7.hp (by omega) HLd.2.2.2.2.1), hw8.hp (by omega) (hw7.hp (by omega) HLd.2.2.2.2.2.1)⟩, ?_⟩
   refine wpAnyH_done (by kernel_rfl) ?_ _
   have hp7' := Go.Lib.hid hp7; clear hp7
   have hp8' := Go.Lib.hid hp8; clear hp8
   go_wp2
   refine bodyPost_ret (Mur.results_cell_row2 rfl _ _ w.heap.size 101 (u32s Mur.H0.toList) (0, 0) _ (w.heap.size + 1) 102 (u32s Mur.K) (0, 0) _ rfl (hw8.hp (by omega) hp7'.out) rfl hp8'.out Tryz.underlying101 rfl (by rw [hzH.out]; kernel_rfl) Tryz.underlying102 rfl (by rw [hzK.out]; kernel_rfl)) rfl ⟨rfl, ?_⟩
   exact (HLd.1.trans (hw7.below (by omega))).trans (hw8.below (by omega))
end Go.Proofs.YtgbadghjnpbiaaaGreatDoor
