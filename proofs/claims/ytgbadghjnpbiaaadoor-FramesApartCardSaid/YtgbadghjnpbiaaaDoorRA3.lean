/- What the row rests on, part 3. -/
import Derived.Lib.AppendZerosOnto
import Derived.Laws.Entries
import Derived.Test.YtgbadghjnpbiaaaDoorProg
import Derived.WalkKit
import Derived.WalkLawsBesides
import Derived.WalkSpells
import Derived.Deep.QuietTactic
import Derived.BigQuiet
import Derived.Laws.CopyOwn
import Derived.Laws.Tables
import Derived.Lib.MakeNoZero
import Derived.Lib.Bytealg
import Derived.Laws.Externs
import Derived.Test.YtgbadghjnpbiaaaDoorRA2
import Derived.Test.YtgbadghjnpbiaaaDoorRA1
namespace Mur
open Go Go.RowKit
abbrev Prs (α : Type) := List UInt8 → Option (α × List UInt8)
structure Codec {α : Type} (enc : α → List UInt8) (dom : α → Prop) (p : Prs α) : Prop where
  rt : ∀ x r, dom x → p (enc x ++ r) = some (x, r)
  un : ∀ b x r, p b = some (x, r) → b = enc x ++ r ∧ dom x
section
variable {α β : Type} {enc : α → List UInt8} {dom : α → Prop} {p : Prs α} {enc2 : β → List UInt8} {dom2 : β → Prop} {p2 : Prs β}
def pSeq (p : Prs α) (p2 : Prs β) : Prs (α × β) := fun b => (p b).bind fun y => (p2 y.2).map fun z => ((y.1, z.1), z.2)
theorem Codec.seq (h : Codec enc dom p) (k : Codec enc2 dom2 p2) : Codec (fun y : α × β => enc y.1 ++ enc2 y.2) (fun y => dom y.1 ∧ dom2 y.2) (pSeq p p2) := by
  refine ⟨fun x r hx => ?_, fun b x r hb => ?_⟩
  · unfold pSeq
    rw [List.append_assoc, h.rt x.1 _ hx.1, Option.bind_some, k.rt x.2 r hx.2]
    rfl
  · unfold pSeq at hb
    obtain ⟨⟨x1, r1⟩, h1, h2⟩ := Option.bind_eq_some_iff.1 hb
    obtain ⟨⟨x2, r2⟩, h3, h4⟩ := Option.map_eq_some_iff.1 h2
    simp only [Prod.mk.injEq] at h4
    obtain ⟨rfl, rfl⟩ := h4
    obtain ⟨e1, d1⟩ := h.un b x1 r1 h1
    obtain ⟨e2, d2⟩ := k.un r1 x2 r2 h3
    exact ⟨by rw [e1, e2, List.append_assoc], d1, d2⟩
def pIf (p : Prs α) (ok : α → Bool) : Prs α := fun b => (p b).bind fun y => if ok y.1 then some y else none
theorem Codec.only (h : Codec enc dom p) (ok : α → Bool) : Codec enc (fun x => dom x ∧ ok x = true) (pIf p ok) := by
  refine ⟨fun x r hx => ?_, fun b x r hb => ?_⟩
  · unfold pIf
    rw [h.rt x r hx.1, Option.bind_some, if_pos hx.2]
  · unfold pIf at hb
    obtain ⟨⟨x1, r1⟩, h1, h2⟩ := Option.bind_eq_some_iff.1 hb
    split at h2
    · rename_i ho
      cases h2
      obtain ⟨e1, d1⟩ := h.un b x r h1
      exact ⟨e1, d1, ho⟩
    · cases h2
theorem Codec.iso (h : Codec enc dom p) (f : α → β) (g : β → α) (hg : ∀ y, dom2 y → dom (g y) ∧ f (g y) = y) (hf : ∀ x, dom x → dom2 (f x) ∧ g (f x) = x) : Codec (fun y => enc (g y)) dom2 (fun b => (p b).map fun y => (f y.1, y.2)) := by
  refine ⟨fun y r hy => ?_, fun b y r hb => ?_⟩
  · show (p (enc (g y) ++ r)).map _ = _
    rw [h.rt (g y) r (hg y hy).1, Option.map_some, (hg y hy).2]
  · obtain ⟨⟨x, r1⟩, h1, h2⟩ := Option.map_eq_some_iff.1 hb
    simp only [Prod.mk.injEq] at h2
    obtain ⟨rfl, rfl⟩ := h2
    obtain ⟨e1, d1⟩ := h.un b x r1 h1
    exact ⟨by rw [(hf x d1).2]; exact e1, (hf x d1).1⟩
def pMany (p : Prs α) : Nat → Prs (List α)
  | 0 => fun b => some ([], b)
  | n + 1 => fun b => (p b).bind fun y => (pMany p n y.2).map fun z => (y.1 :: z.1, z.2)
theorem Codec.many (h : Codec enc dom p) : ∀ n, Codec (fun l : List α => (l.map enc).flatten) (fun l => l.length = n ∧ ∀ x, x ∈ l → dom x) (pMany p n)
  | 0 => ⟨fun l r hl => by
      obtain rfl := List.eq_nil_of_length_eq_zero hl.1
      rfl, fun b l r hb => by
      unfold pMany at hb
      cases hb
      exact ⟨rfl, rfl, fun x hx => by cases hx⟩⟩
  | n + 1 => by
    have ih := h.many n
    refine ⟨fun l r hl => ?_, fun b l r hb => ?_⟩
    · obtain ⟨x, l, rfl⟩ : ∃ x m, l = x :: m := by
        rcases l with _ | ⟨x, m⟩
        · cases hl.1
        · exact ⟨x, m, rfl⟩
      unfold pMany
      rw [List.map_cons, List.flatten_cons, List.append_assoc, h.rt x _ (hl.2 x (by simp)), Option.bind_some, ih.rt l r ⟨by simpa using hl.1, fun y hy => hl.2 y (List.mem_cons_of_mem _ hy)⟩]
      rfl
    · unfold pMany at hb
      obtain ⟨⟨x1, r1⟩, h1, h2⟩ := Option.bind_eq_some_iff.1 hb
      obtain ⟨⟨l2, r2⟩, h3, h4⟩ := Option.map_eq_some_iff.1 h2
      simp only [Prod.mk.injEq] at h4
      obtain ⟨rfl, rfl⟩ := h4
      obtain ⟨e1, d1⟩ := h.un b x1 r1 h1
      obtain ⟨e2, d2⟩ := ih.un r1 l2 r2 h3
      refine ⟨?_, by simp [d2.1], fun y hy => ?_⟩
      · show b = (List.map enc (x1 :: l2)).flatten ++ r2
        rw [List.map_cons, List.flatten_cons, List.append_assoc, e1]
        congr 1
      · rcases List.mem_cons.1 hy with rfl | hy
        · exact d1
        · exact d2.2 y hy
end
-- numbers, of at most so much
theorem codecN : Codec formN (fun n => n < 2 ^ 64) readN := ⟨fun _ r hx => readN_form hx r, fun _ _ _ hb => readN_some hb⟩
def readI : Prs Nat := pIf readN fun n => decide (n ≤ 2 ^ 30)
theorem codecI : Codec formN (fun n => n ≤ 2 ^ 30) readI := by
  have h := codecN.only fun n => decide (n ≤ 2 ^ 30)
  exact ⟨fun x r hx => h.rt x r ⟨by omega, by simpa using hx⟩, fun b x r hb => ⟨(h.un b x r hb).1, by simpa using (h.un b x r hb).2.2⟩⟩
def readK : Prs Nat := pIf readI fun n => decide (n ≤ 255)
theorem codecK : Codec formN (fun n => n ≤ 255) readK := by
  have h := codecI.only fun n => decide (n ≤ 255)
  exact ⟨fun x r hx => h.rt x r ⟨by omega, by simpa using hx⟩, fun b x r hb => ⟨(h.un b x r hb).1, by simpa using (h.un b x r hb).2.2⟩⟩
def flagN (b : Bool) : Nat := if b then 1 else 0
def readFlag : Prs Bool := fun b => (pIf readI (fun n => decide (n ≤ 1)) b).map fun y => (decide (y.1 = 1), y.2)
theorem codecFlag : Codec (fun b => formN (flagN b)) (fun _ => True) readFlag := by
  have h := codecI.only fun n => decide (n ≤ 1)
  refine h.iso (dom2 := fun _ => True) (fun n => decide (n = 1)) flagN (fun b _ => ⟨⟨by cases b <;> decide, by cases b <;> decide⟩, by cases b <;> rfl⟩) fun n hn => ⟨trivial, ?_⟩
  have h1 : n ≤ 1 := by simpa using hn.2
  rcases Nat.le_one_iff_eq_zero_or_eq_one.1 h1 with rfl | rfl <;> rfl
def readS (n : Nat) : Prs (List UInt8) := fun b => if b.length < n then none else some (b.take n, b.drop n)
theorem codecS (n : Nat) : Codec (fun l : List UInt8 => l) (fun l => l.length = n) (readS n) := by
  refine ⟨fun l r hl => ?_, fun b l r hb => ?_⟩
  · unfold readS
    rw [if_neg (by rw [List.length_append]; omega), List.take_left' hl, List.drop_left' hl]
  · unfold readS at hb
    split at hb
    · cases hb
    · rename_i hn
      cases hb
      exact ⟨(List.take_append_drop n b).symm, by rw [List.length_take]; omega⟩
def readB : Prs (List UInt8) := fun b => (readN b).bind fun y => readS y.1 y.2
theorem codecB : Codec (fun l : List UInt8 => formN l.length ++ l) (fun l => l.length < 2 ^ 64) readB := by
  refine ⟨fun l r hl => ?_, fun b l r hb => ?_⟩
  · unfold readB
    rw [List.append_assoc, readN_form hl, Option.bind_some]
    exact (codecS l.length).rt l r rfl
  · unfold readB at hb
    obtain ⟨⟨n, r1⟩, h1, h2⟩ := Option.bind_eq_some_iff.1 hb
    obtain ⟨e1, d1⟩ := readN_some h1
    obtain ⟨e2, d2⟩ := (codecS n).un r1 l r h2
    exact ⟨by rw [e1, e2, d2, List.append_assoc], by rw [d2]; exact d1⟩
def readL {α : Type} (p : Prs α) : Prs (List α) := fun b => (readI b).bind fun y => pMany p y.1 y.2
theorem codecL {α : Type} {enc : α → List UInt8} {dom : α → Prop} {p : Prs α} (h : Codec enc dom p) : Codec (fun l : List α => formN l.length ++ (l.map enc).flatten) (fun l => l.length ≤ 2 ^ 30 ∧ ∀ x, x ∈ l → dom x) (readL p) := by
  refine ⟨fun l r hl => ?_, fun b l r hb => ?_⟩
  · unfold readL
    rw [List.append_assoc, codecI.rt l.length _ hl.1, Option.bind_some]
    exact (h.many l.length).rt l r ⟨rfl, hl.2⟩
  · unfold readL at hb
    obtain ⟨⟨n, r1⟩, h1, h2⟩ := Option.bind_eq_some_iff.1 hb
    obtain ⟨e1, d1⟩ := codecI.un b n r1 h1
    obtain ⟨e2, d2⟩ := (h.many n).un r1 l r h2
    exact ⟨by rw [e1, e2, d2.1, List.append_assoc], by rw [d2.1]; exact d1, d2.2⟩
end Mur
namespace Mur
open Go Go.RowKit Wk
structure Dop where
  kd : Int
  f : Int
  A : Option Addr
  m : Nat
  c : Nat
  b : List UInt8
  k0 : Int
  k1 : Int
def Dop.cells (x : Dop) : List Value := [.int .i64 x.kd, .int .i64 x.f, .slice x.A x.m x.c, .int .i64 x.k0, .int .i64 x.k1]
structure Dop.Ok (w : World) (x : Dop) : Prop where
  byt : Byt w x.A x.m x.b
  nc : x.m ≤ x.c
  cm : x.c ≤ 9223372036854775807
  nil : x.A = none → x.c = 0
def Dops (w : World) (A : Option Addr) (n : Nat) (L : List Dop) : Prop :=
  L.length = n ∧ (∀ x ∈ L, x.Ok w) ∧ (0 < n → ∃ g off, A = some ⟨g, off, none⟩ ∧ ∀ i x, L[i]? = some x → w.rangeAt g (off + i * 5) x.cells)
theorem Dops.at {w : World} {A : Option Addr} {n : Nat} {L : List Dop} (h : Dops w A n L) {k : Nat} (hk : k < n) : ∃ g off kd f B mb cb bs k0 k1, A = some ⟨g, off, none⟩ ∧ g < w.heap.size ∧ w.rangeAt g (off + k * 5) [.int .i64 kd, .int .i64 f, .slice B mb cb, .int .i64 k0, .int .i64 k1] ∧ Byt w B mb bs ∧ mb ≤ cb ∧ cb ≤ 9223372036854775807 ∧ (B = none → cb = 0) := by
  obtain ⟨h1, h2, h3⟩ := h
  obtain ⟨g, off, rfl, hc⟩ := h3 (by omega)
  obtain ⟨x, hx⟩ : ∃ x, L[k]? = some x := ⟨_, List.getElem?_eq_getElem (by omega)⟩
  have hok := h2 x (List.mem_of_getElem? hx)
  have q := hc k x hx
  have hg : g < w.heap.size := World.block_lt_of_cell? w ⟨g, off + k * 5 + 0, none⟩ (q 0 (.int .i64 x.kd) rfl)
  exact ⟨g, off, x.kd, x.f, x.A, x.m, x.c, x.b, x.k0, x.k1, rfl, hg, q, hok.byt, hok.nc, hok.cm, hok.nil⟩
end Mur
namespace Mur
end Mur
namespace Mur
open Go Go.RowKit Wk
section
variable {P : Program} {w : World} {a : Act} {o : Oper}
theorem to_u64 (s t : TypeId) (x : Operand) (ho : o.op = .convert s t x) (hs : (P.underlying s).isSome = true) (ht : P.underlying t = some (.int .u64)) (k : IntKind) (z : Int) (hx : a.eval x = .int k z) :
    ∃ v w1, (execOp a.eval o).run P w = .ok (.value v) w1 ∧ ∃ u : Nat, v = .int .u64 (u : Int) ∧ w = w1 ∧ (u : Int) = IntKind.u64.wrap z := by
  have h0 : 0 ≤ IntKind.u64.wrap z := by
    simp only [IntKind.wrap]
    exact Int.emod_nonneg _ (by decide)
  have hk : P.intKind t = .u64 := by simp [Program.intKind, ht]
  refine ⟨_, w, ?_, (IntKind.u64.wrap z).toNat, rfl, rfl, Int.toNat_of_nonneg h0⟩
  have key : (convert s t (.int k z)).run P w = .ok (.int .u64 (IntKind.u64.wrap z)) w := by
    have := run_convert_int (P := P) (w := w) s t k z hs (by rw [ht, hk])
    rw [this, hk]
  unfold execOp
  simp only [ho, hx, Sem.run_bind, key, Result.andThen_ok, Sem.run_pure, Int.toNat_of_nonneg h0]
theorem conv_int (s t : TypeId) (x : Operand) (ho : o.op = .convert s t x) (hs : (P.underlying s).isSome = true) (k' : IntKind) (ht : P.underlying t = some (.int k')) (k : IntKind) (z : Int) (hx : a.eval x = .int k z) (hz : k'.wrap z = z) :
    (execOp a.eval o).run P w = .ok (.value (.int k' z)) w := by
  have hk : P.intKind t = k' := by simp [Program.intKind, ht]
  have key : (convert s t (.int k z)).run P w = .ok (.int k' z) w := by
    have := run_convert_int (P := P) (w := w) s t k z hs (by rw [ht, hk])
    rw [this, hk, hz]
  unfold execOp
  simp only [ho, hx, Sem.run_bind, key, Result.andThen_ok, Sem.run_pure]
theorem u64_nat {n : Nat} (h : n < 18446744073709551616) : IntKind.u64.wrap (n : Int) = (n : Int) := by
  have h1 : IntKind.u64.wrap (n : Int) = (n : Int) % 18446744073709551616 := rfl
  rw [h1, Int.emod_eq_of_lt (by omega) (by omega)]
theorem i64_nat {n : Nat} (h : n < 9223372036854775808) : IntKind.i64.wrap (n : Int) = (n : Int) := IntWalk.i64_in _ ⟨by omega, by omega⟩
theorem run_op_from (t : TypeId) (x y : Operand) (ho : o.op = .slice t x (some y) none none) (e : TypeId) (ht : P.underlying t = some (.slice e)) (hsz : (P.info? e).map (·.size) = some 1) (A : Option Addr) (n c l : Nat)
    (hx : a.eval x = .slice A n c) (hy : a.eval y = .int .i64 (l : Int)) (hl : l ≤ n) (hnc : n ≤ c) : (execOp a.eval o).run P w = .ok (.value (.slice (cutA A c l) (n - l) (c - l))) w := by
  unfold execOp
  simp only [ho, hx, hy, Option.map_some, Option.map_none, Sem.run_bind, run_cut_from t e ht hsz A n c l hl hnc, Result.andThen_ok, Sem.run_pure]
theorem byt_from {A : Option Addr} {n c : Nat} {l : List UInt8} (h : Byt w A n l) (k : Nat) (hk : k ≤ n) (hnc : n ≤ c) : Byt w (cutA A c k) (n - k) (l.drop k) := by
  have := h.cut k n hk (Nat.le_refl _) hnc
  rwa [List.take_of_length_le (by rw [h.1]; exact Nat.le_refl _)] at this
end
end Mur
namespace Mur
open Go Go.RowKit Wk
section
variable {P : Program}
theorem run_eql_no {T e : TypeId} (h : DigT P T e) (d d' : List UInt8) (hd : d.length = 32) (hd' : d'.length = 32) (he : ¬ d = d') (w : World) (x y : Operand) (ty : TypeId) {a : Act} {o : Oper} (ho : o.op = .binOp .eql T x y ty)
    (hx : a.eval x = .agg (b8s d).toArray) (hy : a.eval y = .agg (b8s d').toArray) : (execOp a.eval o).run P w = .ok (.value (.bool false)) w := by
  rw [run_eql_dig h d d' hd hd' w x y ty a o ho hx hy, decide_eq_false he]
theorem run_eql_yes {T e : TypeId} (h : DigT P T e) (d d' : List UInt8) (hd : d.length = 32) (hd' : d'.length = 32) (he : d = d') (w : World) (x y : Operand) (ty : TypeId) {a : Act} {o : Oper} (ho : o.op = .binOp .eql T x y ty)
    (hx : a.eval x = .agg (b8s d).toArray) (hy : a.eval y = .agg (b8s d').toArray) : (execOp a.eval o).run P w = .ok (.value (.bool true)) w := by
  rw [run_eql_dig h d d' hd hd' w x y ty a o ho hx hy, decide_eq_true he]
end
end Mur
namespace Go.Proofs.YtgbadghjnpbiaaaDoor
open Go.RowKit
def n64s (l : List Nat) : Array Value := (l.map fun x : Nat => Value.int .u64 (x : Int)).toArray
theorem set_n64s {w : World} {g t i : Nat} {l : List Nat} (h : w.heap[g]? = some (.cells (n64s l) t (0, 0))) (x : Nat) : (w.setCell ⟨g, i, none⟩ (.int .u64 (x : Int))).heap[g]? = some (.cells (n64s (l.set i x)) t (0, 0)) := by
  rw [heap_setCell_same w g i _ t _ h]
  simp [n64s, List.map_set]
set_option maxRecDepth 100000
def L3 (w : World) (d e : List Nat) (wr : World) : Prop :=
  Below w.heap.size w wr ∧ wr.heap.size = w.heap.size + 2 ∧ wr.heap[w.heap.size]? = some (.cells (n64s d) 134 (0, 0)) ∧ wr.heap[w.heap.size + 1]? = some (.cells (n64s e) 134 (0, 0))
theorem L3.set {w wr : World} {d e : List Nat} (h : L3 w d e wr) (k x : Nat) : L3 w d (e.set k x) (wr.setCell ⟨w.heap.size + 1, k, none⟩ (.int .u64 (x : Int))) :=
  ⟨h.1.setCell (by simp) _, by simpa using h.2.1, Mur.hp_set_ne h.2.2.1 _ _ _ (by omega), set_n64s h.2.2.2 x⟩
end Go.Proofs.YtgbadghjnpbiaaaDoor
namespace Go.Proofs.YtgbadghjnpbiaaaDoor
open Go.RowKit
def L5 (w : World) (a b : List Nat) (wr : World) : Prop :=
  Below w.heap.size w wr ∧ w.heap.size + 2 ≤ wr.heap.size ∧ wr.heap[w.heap.size]? = some (.cells (n64s a) 134 (0, 0)) ∧ wr.heap[w.heap.size + 1]? = some (.cells (n64s b) 134 (0, 0))
theorem L5.drewN {w wr : World} {a b : List Nat} (h : L5 w a b wr) (n : Nat) : L5 w a b (wr.drewN n) := ⟨Mur.below_drewN h.1 n, h.2.1, h.2.2.1, h.2.2.2⟩
set_option maxRecDepth 100000
/-! times -/
def Dig (l : List Nat) : Prop := l.length = 10 ∧ ∀ x ∈ l, x < 65536
theorem Dig.set {l : List Nat} (h : Dig l) (k x : Nat) (hx : x < 65536) : Dig (l.set k x) :=
  ⟨by rw [List.length_set]; exact h.1, fun y hy => by
    rcases List.mem_or_eq_of_mem_set hy with h1 | h1
    · exact h.2 y h1
    · rw [h1]; exact hx⟩
def L6 (w : World) (a b o : List Nat) (wr : World) : Prop :=
  Below w.heap.size w wr ∧ w.heap.size + 4 ≤ wr.heap.size ∧ wr.heap[w.heap.size]? = some (.cells (n64s a) 134 (0, 0)) ∧ wr.heap[w.heap.size + 1]? = some (.cells (n64s b) 134 (0, 0)) ∧
  wr.heap[w.heap.size + 1 + 1]? = some (.cells (n64s (List.replicate 10 0)) 134 (0, 0)) ∧ wr.heap[w.heap.size + 1 + 1 + 1]? = some (.cells (n64s o) 134 (0, 0))
theorem L6.drewN {w wr : World} {a b o : List Nat} (h : L6 w a b o wr) (n : Nat) : L6 w a b o (wr.drewN n) := ⟨Mur.below_drewN h.1 n, h.2.1, h.2.2.1, h.2.2.2.1, h.2.2.2.2.1, h.2.2.2.2.2⟩
theorem L6.set {w wr : World} {a b o : List Nat} (h : L6 w a b o wr) (k x : Nat) : L6 w a b (o.set k x) (wr.setCell ⟨w.heap.size + 1 + 1 + 1, k, none⟩ (.int .u64 (x : Int))) :=
  ⟨h.1.setCell (by simp; omega) _, by simpa using h.2.1, Mur.hp_set_ne h.2.2.1 _ _ _ (by omega), Mur.hp_set_ne h.2.2.2.1 _ _ _ (by omega), Mur.hp_set_ne h.2.2.2.2.1 _ _ _ (by omega), set_n64s h.2.2.2.2.2 x⟩
set_option maxHeartbeats 1000000
end Go.Proofs.YtgbadghjnpbiaaaDoor
namespace Go.Proofs.YtgbadghjnpbiaaaDoor
open Go.RowKit
set_option maxRecDepth 100000
set_option maxHeartbeats 1000000
end Go.Proofs.YtgbadghjnpbiaaaDoor
namespace Go.Proofs.YtgbadghjnpbiaaaDoor
open Go.RowKit
open Mur (w32 u32s)
set_option maxRecDepth 100000
def pick (i : Nat) (m : Int) : UInt32 := if m = 3 then Mur.K.getD i 0 else Mur.H0.toList.getD i 0
def L8 (w : World) (g : Nat) (hl kl : List UInt32) (wr : World) : Prop :=
  Below w.heap.size w wr ∧ w.heap.size + 4 ≤ wr.heap.size ∧ wr.heap[w.heap.size]? = some (.cells (u32s (List.replicate 8 0)) 74 (0, 0)) ∧ wr.heap[w.heap.size + 1]? = some (.cells (u32s (List.replicate 64 0)) 75 (0, 0)) ∧
  wr.heap[w.heap.size + 1 + 1]? = some (.cells (u32s hl) 74 (0, 0)) ∧ wr.heap[w.heap.size + 1 + 1 + 1]? = some (.cells (u32s kl) 75 (0, 0)) ∧
  (∀ j, j < 64 → wr.cell? ⟨g, j, none⟩ = some (.int .i64 (((Mur.primesTo 312).getD j 0 : Nat) : Int)))
theorem L8.below {w wr w1 : World} {g : Nat} {hl kl : List UInt32} (h : L8 w g hl kl wr) (hb : Below wr.heap.size wr w1) : L8 w g hl kl w1 := by
  obtain ⟨h0, h1, h2, h3, h4, h5, h6⟩ := h
  exact ⟨h0.trans (hb.mono (by omega)), Nat.le_trans h1 hb.size, Mur.hp_below hb h2, Mur.hp_below hb h3, Mur.hp_below hb h4, Mur.hp_below hb h5, fun j hj => Mur.cell_below hb (h6 j hj)⟩
theorem L8.drewN {w wr : World} {g : Nat} {hl kl : List UInt32} (h : L8 w g hl kl wr) (n : Nat) : L8 w g hl kl (wr.drewN n) := ⟨Mur.below_drewN h.1 n, h.2.1, h.2.2.1, h.2.2.2.1, h.2.2.2.2.1, h.2.2.2.2.2.1, h.2.2.2.2.2.2⟩
set_option maxHeartbeats 1000000
end Go.Proofs.YtgbadghjnpbiaaaDoor
namespace Go.Proofs.YtgbadghjnpbiaaaDoor
open Go.RowKit
open Mur (St w32 u32s cell_u32s free_row set_u32s)
def L9 (w : World) (h : St) (ws : List UInt32) (wr : World) : Prop :=
  Below w.heap.size w wr ∧ wr.heap.size = w.heap.size + 4 ∧ wr.heap[w.heap.size]? = some (.cells (stCells h) 74 (0, 0)) ∧ wr.heap[w.heap.size + 1]? = some (.cells (u32s Mur.K) 75 (0, 0)) ∧
  wr.heap[w.heap.size + 1 + 1]? = some (.cells (u32s (List.replicate 8 0)) 74 (0, 0)) ∧ wr.heap[w.heap.size + 1 + 1 + 1]? = some (.cells (u32s ws) 75 (0, 0))
theorem L9.set {w wr : World} {h : St} {ws : List UInt32} (H : L9 w h ws wr) (n k : Nat) (x : UInt32) : L9 w h (ws.set k x) ((wr.drewN n).setCell ⟨w.heap.size + 1 + 1 + 1, k, none⟩ (.int .u32 (w32 x))) := by
  obtain ⟨h0, h1, h2, h3, h4, h5⟩ := H
  exact ⟨(Mur.below_drewN h0 n).setCell (by simp; omega) _, by simpa using h1, Mur.hp_set_ne (Mur.hp_drewN h2 n) _ _ _ (by omega), Mur.hp_set_ne (Mur.hp_drewN h3 n) _ _ _ (by omega), Mur.hp_set_ne (Mur.hp_drewN h4 n) _ _ _ (by omega), set_u32s (Mur.hp_drewN h5 n) x⟩
theorem wrap_mul256 (a : UInt32) : IntKind.u32.wrap (w32 a * (256 : Int)) = w32 (a * 256) := by
  rw [IntKind.wrap_u32, w32, w32, UInt32.toNat_mul]
  have t : (256 : UInt32).toNat = 256 := rfl
  rw [t]
  omega
theorem bits_not_u32' (a : UInt32) : bits .xor .u32 4294967295 (w32 a) = w32 (~~~a) := Mur.bits_not_u32 a
attribute [local go_sem] Mur.wrap_u32_u8 wrap_mul256 Mur.shr3 Mur.shr10 Mur.bits_or_u32 Mur.bits_and_u32 Mur.bits_xor_u32 Mur.bits_not_u32 bits_not_u32' Mur.wrap_add_u32 Mur.wrap_not_u32
def L10 (w : World) (h : St) (ws : List UInt32) (s : St) (wr : World) : Prop :=
  Below w.heap.size w wr ∧ wr.heap[w.heap.size]? = some (.cells (stCells h) 74 (0, 0)) ∧ wr.heap[w.heap.size + 1]? = some (.cells (u32s Mur.K) 75 (0, 0)) ∧
  wr.heap[w.heap.size + 1 + 1]? = some (.cells (u32s (List.replicate 8 0)) 74 (0, 0)) ∧ wr.heap[w.heap.size + 1 + 1 + 1]? = some (.cells (u32s ws) 75 (0, 0)) ∧
  wr.heap[w.heap.size + 1 + 1 + 1 + 1]? = some (.cells (stCells s) 74 (0, 0))
theorem L10.drewN {w wr : World} {h s : St} {ws : List UInt32} (H : L10 w h ws s wr) (n : Nat) : L10 w h ws s (wr.drewN n) := ⟨Mur.below_drewN H.1 n, H.2.1, H.2.2.1, H.2.2.2.1, H.2.2.2.2.1, H.2.2.2.2.2⟩
def L11 (w : World) (h : St) (s : List UInt32) (wr : World) : Prop :=
  wr.heap[w.heap.size]? = some (.cells (stCells h) 74 (0, 0)) ∧ Below w.heap.size w wr ∧
  wr.heap[w.heap.size + 1 + 1]? = some (.cells (u32s (List.replicate 8 0)) 74 (0, 0)) ∧ wr.heap[w.heap.size + 1 + 1 + 1 + 1]? = some (.cells (u32s s) 74 (0, 0))
theorem L11.put {w wr : World} {h : St} {s : List UInt32} (H : L11 w h s wr) (n k : Nat) (x : UInt32) : L11 w h (s.set k x) ((wr.drewN n).setCell ⟨w.heap.size + 1 + 1 + 1 + 1, k, none⟩ (.int .u32 (w32 x))) := by
  obtain ⟨h0, h1, h2, h3⟩ := H
  exact ⟨Mur.hp_set_ne (Mur.hp_drewN h0 n) _ _ _ (by omega), (Mur.below_drewN h1 n).setCell (by simp; omega) _, Mur.hp_set_ne (Mur.hp_drewN h2 n) _ _ _ (by omega), set_u32s (Mur.hp_drewN h3 n) x⟩
set_option maxRecDepth 100000
set_option maxHeartbeats 4000000
end Go.Proofs.YtgbadghjnpbiaaaDoor
namespace Go.Proofs.YtgbadghjnpbiaaaDoor
open Go.RowKit
open Mur (St w32 u32s cell_u32s free_row set_u32s b8s dgV Byt cutA)
theorem padded_eq (b : List UInt8) : Mur.padded b = b ++ [128] ++ List.replicate (Mur.padZeros b.length) 0 ++ lenBytes b.length := rfl
set_option maxRecDepth 100000
set_option maxHeartbeats 4000000
end Go.Proofs.YtgbadghjnpbiaaaDoor
namespace Mur
open Go Go.RowKit
section
variable {P : Program} {ops : Array Oper} {rest : List Oper} {o : Oper} {a : Act} {C : World → Prop} {Q : Act → Prop}
end
end Mur
namespace Go.Proofs.YtgbadghjnpbiaaaDoor
open Go.RowKit
open Mur (St w32 u32s cell_u32s free_row set_u32s b8s dgV Byt cutA)
def L13 (w : World) (s : St) (D : Nat) (d : List UInt8) (wr : World) : Prop :=
  Below w.heap.size w wr ∧ wr.heap[w.heap.size]? = some (.cells (stCells s) 74 (0, 0)) ∧ wr.heap[w.heap.size + 1 + 1]? = some (.cells (b8s (List.replicate 32 0)).toArray 29 (0, 0)) ∧
  wr.heap[D]? = some (.cells (b8s d).toArray 29 (0, 0))
theorem L13.setD {w wr : World} {s : St} {D : Nat} {d : List UInt8} (h : L13 w s D d wr) (hD : w.heap.size + 3 ≤ D) (k : Nat) (x : UInt8) : L13 w s D (d.set k x) (wr.setCell ⟨D, k, none⟩ (.int .u8 (x.toNat : Int))) :=
  ⟨h.1.setCell (by simp; omega) _, Mur.hp_set_ne h.2.1 _ _ _ (by omega), Mur.hp_set_ne h.2.2.1 _ _ _ (by omega), Mur.set_b8s h.2.2.2 x⟩
set_option maxRecDepth 100000
set_option maxHeartbeats 4000000
end Go.Proofs.YtgbadghjnpbiaaaDoor
namespace Mur
open Go Go.RowKit Wk
section
variable {P : Program} {w : World} {a : Act} {o : Oper}
theorem storeArr (ty : TypeId) (x y : Operand) (ho : o.op = .store ty x y) (g : Nat) (hx : a.eval x = .pointer (some ⟨g, 0, none⟩)) (vs : Array Value) (n : Nat) (hv : vs.size = n) (h1 : vs.all (·.oneCell') = true) (hy : a.eval y = .agg vs) (hi : (P.info? ty).map (·.size) = some n)
    (t : TypeId) (cs : Array Value) (hg : w.heap[g]? = some (.cells cs t (0, 0))) (hn : cs.size = n) :
    ∃ w', (execOp a.eval o).run P w = .ok .skip w' ∧ w'.heap[g]? = some (.cells vs t (0, 0)) ∧ Chg [g] w w' := by
  obtain ⟨vl⟩ := vs
  have hvl : vl.length = n := hv
  have h1' : ∀ v ∈ vl, v.oneCell' = true := fun v hm => Array.all_eq_true_iff_forall_mem.1 h1 v (by simpa using hm)
  obtain ⟨w', q1, q2, q3⟩ := storeR (P := P) ty x y ho g 0 hx vl hy (by rw [hi, hvl]) h1' t cs.toList (by simpa using hg) (by rw [hvl, Array.length_toList, hn]; omega)
  refine ⟨w', q1, ?_, q3⟩
  rw [q2]
  congr 2
  have hdrop : cs.toList.drop (0 + vl.length) = [] := List.drop_of_length_le (by rw [hvl, Array.length_toList, hn]; omega)
  unfold splice
  rw [hdrop]
  simp
theorem loadArr (ty : TypeId) (x : Operand) (ho : o.op = .load ty x) (d : TypeDesc) (hu : P.underlying ty = some d) (hd : d.isRow = true) (g : Nat) (hx : a.eval x = .pointer (some ⟨g, 0, none⟩)) (cs : Array Value) (n : Nat) (hn : cs.size = n)
    (hi : (P.info? ty).map (·.size) = some n) (t : TypeId) (fr : Nat × Nat) (hg : w.heap[g]? = some (.cells cs t fr)) : (execOp a.eval o).run P w = .ok (.value (.agg cs)) w := by
  obtain ⟨l⟩ := cs
  exact loadR ty x ho d hu hd g 0 hx l (by rw [hi]; exact congrArg some hn.symm) (range_row hg)
end
theorem Own8.some {w : World} {base e n c : Nat} {A : Option Addr} {l : List UInt8} (h : Own8 w base e A n c l) (hn : 0 < n) : ∃ g, A = some ⟨g, 0, none⟩ ∧ base ≤ g ∧ g < w.heap.size := by
  obtain ⟨g, rfl, _⟩ := own_some h.own hn
  exact ⟨g, rfl, h.at_ g 0 rfl⟩
end Mur
namespace Go.Proofs.YtgbadghjnpbiaaaDoor
open Go.RowKit
open Mur (St w32 u32s cell_u32s free_row set_u32s b8s dgV Byt cutA)
end Go.Proofs.YtgbadghjnpbiaaaDoor
namespace Mur
open Go Go.RowKit Wk
def attC (k r : List UInt8) (n : Int) (t : List UInt8) : List Value := b8s k ++ (b8s r ++ (.int .i64 n :: b8s t))
def z32 : List UInt8 := List.replicate 32 0
section
variable {k r t : List UInt8} {n : Int}
theorem attC_length (hk : k.length = 32) (hr : r.length = 32) (ht : t.length = 32) : (attC k r n t).length = 97 := by simp [attC, b8s_length, hk, hr, ht]
theorem attC_size (hk : k.length = 32) (hr : r.length = 32) (ht : t.length = 32) : (attC k r n t).toArray.size = 97 := attC_length hk hr ht
theorem attC_one : ∀ v ∈ attC k r n t, v.oneCell' = true := by
  intro v hv
  simp only [attC, List.mem_append, List.mem_cons] at hv
  rcases hv with h | h | h | h
  · exact b8s_one k v h
  · exact b8s_one r v h
  · subst h; rfl
  · exact b8s_one t v h
theorem attC_all : (attC k r n t).toArray.all (·.oneCell') = true := Array.all_eq_true_iff_forall_mem.2 fun v hv => attC_one v (by simpa using hv)
theorem attC_zero : (attC z32 z32 0 z32).toArray = #[.int .u8 0, .int .u8 0, .int .u8 0, .int .u8 0, .int .u8 0, .int .u8 0, .int .u8 0, .int .u8 0, .int .u8 0, .int .u8 0, .int .u8 0, .int .u8 0, .int .u8 0, .int .u8 0, .int .u8 0, .int .u8 0,
  .int .u8 0, .int .u8 0, .int .u8 0, .int .u8 0, .int .u8 0, .int .u8 0, .int .u8 0, .int .u8 0, .int .u8 0, .int .u8 0, .int .u8 0, .int .u8 0, .int .u8 0, .int .u8 0, .int .u8 0, .int .u8 0,
  .int .u8 0, .int .u8 0, .int .u8 0, .int .u8 0, .int .u8 0, .int .u8 0, .int .u8 0, .int .u8 0, .int .u8 0, .int .u8 0, .int .u8 0, .int .u8 0, .int .u8 0, .int .u8 0, .int .u8 0, .int .u8 0,
  .int .u8 0, .int .u8 0, .int .u8 0, .int .u8 0, .int .u8 0, .int .u8 0, .int .u8 0, .int .u8 0, .int .u8 0, .int .u8 0, .int .u8 0, .int .u8 0, .int .u8 0, .int .u8 0, .int .u8 0, .int .u8 0, .int .i64 0,
  .int .u8 0, .int .u8 0, .int .u8 0, .int .u8 0, .int .u8 0, .int .u8 0, .int .u8 0, .int .u8 0, .int .u8 0, .int .u8 0, .int .u8 0, .int .u8 0, .int .u8 0, .int .u8 0, .int .u8 0, .int .u8 0,
  .int .u8 0, .int .u8 0, .int .u8 0, .int .u8 0, .int .u8 0, .int .u8 0, .int .u8 0, .int .u8 0, .int .u8 0, .int .u8 0, .int .u8 0, .int .u8 0, .int .u8 0, .int .u8 0, .int .u8 0, .int .u8 0] := rfl
variable {w : World} {g : Nat} {T : TypeId} {fr : Nat × Nat}
theorem att_key (h : w.heap[g]? = some (.cells (attC k r n t).toArray T fr)) : w.rangeAt g 0 (b8s k) := range_sub 0 (b8s k) h (by simp [attC])
theorem att_root (hk : k.length = 32) (h : w.heap[g]? = some (.cells (attC k r n t).toArray T fr)) : w.rangeAt g 32 (b8s r) := range_sub 32 (b8s r) h (by
  show ((b8s k ++ _).drop 32).take _ = _
  rw [List.drop_left' (by rw [b8s_length, hk])]
  simp)
theorem drop64 (hk : k.length = 32) (hr : r.length = 32) : (attC k r n t).drop 64 = .int .i64 n :: b8s t := by
  unfold attC
  rw [← List.append_assoc, List.drop_left' (by rw [List.length_append, b8s_length, b8s_length, hk, hr])]
theorem att_tag (hk : k.length = 32) (hr : r.length = 32) (h : w.heap[g]? = some (.cells (attC k r n t).toArray T fr)) : w.rangeAt g 65 (b8s t) := range_sub 65 (b8s t) h (by
  show ((attC k r n t).drop (64 + 1)).take _ = _
  rw [← List.drop_drop, drop64 hk hr]
  simp)
theorem att_len (hk : k.length = 32) (hr : r.length = 32) (h : w.heap[g]? = some (.cells (attC k r n t).toArray T fr)) : w.cell? ⟨g, 64, none⟩ = some (.int .i64 n) := by
  rw [cell_of_row _ _ _ _ _ _ h, List.getElem?_toArray]
  have := congrArg (fun l => l[0]?) (drop64 (n := n) (t := t) hk hr)
  simpa [List.getElem?_drop] using this
theorem byt_rng {off m : Nat} {l : List UInt8} (h : w.rangeAt g off (b8s l)) (hl : l.length = m) : Byt w (some ⟨g, off, none⟩) m l := ⟨hl, fun _ => ⟨g, off, rfl, fun j hj => h j _ (b8s_get l j (by omega))⟩⟩
end
theorem splice_mid {α : Type} {A B C vs : List α} {off : Nat} (hA : A.length = off) (hB : B.length = vs.length) : splice (A ++ (B ++ C)) off vs = A ++ (vs ++ C) := by
  unfold splice
  rw [List.take_left' hA, ← List.append_assoc A B C, List.drop_left' (by rw [List.length_append]; omega)]
theorem fold_splice : ∀ (vs L : List Value) (off s : Nat), off + s + vs.length ≤ L.length → (vs.zipIdx s).foldl (fun cs (c : Value × Nat) => cs.setIfInBounds (off + c.2) c.1) L.toArray = (splice L (off + s) vs).toArray
  | [], L, off, s, _ => by simp [splice]
  | v :: vs, L, off, s, h => by
    simp only [List.length_cons] at h
    rw [List.zipIdx_cons, List.foldl_cons, List.setIfInBounds_toArray, fold_splice vs (L.set (off + s) v) off (s + 1) (by simp; omega)]
    rw [← Nat.add_assoc, splice_set L (off + s) v vs (by omega)]
section
variable {P : Program} {w : World} {a : Act} {o : Oper}
theorem fill_part {place : Nat → Option (Nat × Nat)} {L vs : List Value} {v : Value} {i off size : Nat} {rest : List (Nat × Value)} {R : Option (Array Value)} (hp : place i = some (off, size)) (hv : v.cells = vs.toArray) (hs : vs.length = size) (hf : off + size ≤ L.length)
    (h : Instr.fill place (splice L off vs).toArray rest = R) : Instr.fill place L.toArray ((i, v) :: rest) = R := by
  subst hs
  unfold Instr.fill
  rw [hp]
  simp only [hv, List.size_toArray, ne_eq, not_true_eq_false, decide_false, Bool.false_or]
  rw [if_neg (by simpa using hf)]
  have := fold_splice vs L off 0 (by omega)
  rw [Nat.add_zero] at this
  rw [← h, ← this]
  congr 1
  rw [← Array.foldl_toList, Array.toList_zipIdx]
theorem run_built (t : TypeId) (parts : Array (Nat × Operand)) (ho : o.op = .build t parts) (vals : List (Nat × Value)) (hv : (parts.map fun p => (p.1, a.eval p.2)) = vals.toArray) (cells : Array Value) (hb : P.built t vals = some cells) : (execOp a.eval o).run P w = .ok (.value (.agg cells)) w := by
  have := run_build (P := P) w t vals.toArray cells (by simpa using hb)
  unfold execOp
  simp only [ho, hv, Sem.run_bind, this, Result.andThen_ok, Sem.run_pure]
theorem arr_slice_at (t e : TypeId) (x : Operand) (n : Nat) (ho : o.op = .slice t x none none none) (ht : P.underlying t = some (.array n e)) (hsz : (P.info? e).map (·.size) = some 1) (g off : Nat) (hx : a.eval x = .pointer (some ⟨g, off, none⟩)) :
    (execOp a.eval o).run P w = .ok (.value (.slice (some ⟨g, off, none⟩) n n)) w := by
  obtain ⟨i, hi, hs⟩ := Option.map_eq_some_iff.1 hsz
  have e0 : (⟨g, off, none⟩ : Addr).add 0 = ⟨g, off, none⟩ := by rw [Addr.add_mid]; rfl
  unfold execOp
  simp only [ho, hx, Option.map_none]
  simp [Instr.sliceAt, Instr.slice, Instr.sureAddr, run_underlying ht, Instr.sliceBounds, Go.sizeOf, typeInfo, hi, e0]
theorem shr64 (t ty : TypeId) (x y : Operand) (ho : o.op = .binOp .shr t x y ty) (u k : Nat) (yk : IntKind) (hx : a.eval x = .int .u64 ((u : Nat) : Int)) (hy : a.eval y = .int yk ((k : Nat) : Int)) (hk : k ≤ 64) (p : Nat) (hp : 2 ^ k = p) : (execOp a.eval o).run P w = .ok (.value (.int .u64 (((u / p : Nat)) : Int))) w := by
  subst hp
  have hb : IntKind.u64.bits = 64 := rfl
  have key : (Op.shift .shr .u64 ((u : Nat) : Int) yk ((k : Nat) : Int)).run P w = .ok (.int .u64 ((u / 2 ^ k : Nat) : Int)) w := by
    unfold Op.shift
    rw [if_neg (by omega)]
    have h1 : min ((k : Nat) : Int).toNat IntKind.u64.bits = k := by rw [hb]; simp; omega
    have h2 : Int.fdiv ((u : Nat) : Int) (2 ^ k) = ((u / 2 ^ k : Nat) : Int) := by
      rw [Int.fdiv_eq_ediv_of_nonneg _ (by exact_mod_cast Nat.zero_le _)]
      exact_mod_cast rfl
    simp only [h1, h2, Sem.run_pure]
  have hg : (eqGuard .shr t x y (.int .u64 ((u : Nat) : Int)) (.int yk ((k : Nat) : Int))).run P w = .ok () w := rfl
  have key2 : (binOp .shr t (.int .u64 ((u : Nat) : Int)) (.int yk ((k : Nat) : Int))).run P w = .ok (.int .u64 ((u / 2 ^ k : Nat) : Int)) w := key
  unfold execOp
  simp only [ho, hx, hy]
  simp only [Sem.run_bind, Sem.run_pure, hg, Result.andThen_ok, key2]
end
theorem u8_mod (u : Nat) : IntKind.u8.wrap ((u : Nat) : Int) = ((u % 256 : Nat) : Int) := by
  show ((u : Nat) : Int) % 256 = _
  omega
def u64n (n : Int) : Nat := (IntKind.u64.wrap n).toNat
def e8 (u : Nat) : List UInt8 := [UInt8.ofNat (u / 72057594037927936), UInt8.ofNat (u / 281474976710656), UInt8.ofNat (u / 1099511627776), UInt8.ofNat (u / 4294967296), UInt8.ofNat (u / 16777216), UInt8.ofNat (u / 65536), UInt8.ofNat (u / 256), UInt8.ofNat (u / 1)]
theorem e8_cells (u : Nat) : (b8s (e8 u)).toArray = #[.int .u8 ((u / 72057594037927936 % 256 : Nat) : Int), .int .u8 ((u / 281474976710656 % 256 : Nat) : Int), .int .u8 ((u / 1099511627776 % 256 : Nat) : Int), .int .u8 ((u / 4294967296 % 256 : Nat) : Int),
    .int .u8 ((u / 16777216 % 256 : Nat) : Int), .int .u8 ((u / 65536 % 256 : Nat) : Int), .int .u8 ((u / 256 % 256 : Nat) : Int), .int .u8 ((u / 1 % 256 : Nat) : Int)] := by
  have h : ∀ x : Nat, (UInt8.ofNat x).toNat = x % 256 := fun x => by simp
  simp only [e8, b8s, List.map_cons, List.map_nil, h]
theorem e8_length (u : Nat) : (e8 u).length = 8 := rfl
def body (k r : List UInt8) (n : Int) : List UInt8 := [17] ++ (k ++ (r ++ e8 (u64n n)))
def may (n : Int) : Prop := 1 ≤ n ∧ n ≤ 5000
instance (n : Int) : Decidable (may n) := by unfold may; infer_instance
end Mur
namespace Mur
open Go Go.RowKit Wk
section
variable {P : Program} {w : World} {a : Act} {o : Oper}
theorem conv_u64n (s t : TypeId) (x : Operand) (ho : o.op = .convert s t x) (hs : (P.underlying s).isSome = true) (ht : P.underlying t = some (.int .u64)) (k : IntKind) (z : Int) (hx : a.eval x = .int k z) : (execOp a.eval o).run P w = .ok (.value (.int .u64 ((u64n z : Nat) : Int))) w := by
  obtain ⟨v, w1, h, u, rfl, rfl, hu⟩ := to_u64 (P := P) (w := w) s t x ho hs ht k z hx
  rw [h]
  have : u = u64n z := by unfold u64n; omega
  rw [this]
theorem conv_u8 (s t : TypeId) (x : Operand) (ho : o.op = .convert s t x) (hs : (P.underlying s).isSome = true) (ht : P.underlying t = some (.int .u8)) (k : IntKind) (u : Nat) (hx : a.eval x = .int k ((u : Nat) : Int)) : (execOp a.eval o).run P w = .ok (.value (.int .u8 ((u % 256 : Nat) : Int))) w := by
  have hk : P.intKind t = .u8 := by simp [Program.intKind, ht]
  have key : (convert s t (.int k ((u : Nat) : Int))).run P w = .ok (.int .u8 ((u % 256 : Nat) : Int)) w := by
    have := run_convert_int (P := P) (w := w) s t k ((u : Nat) : Int) hs (by rw [ht, hk])
    rw [this, hk, u8_mod]
  unfold execOp
  simp only [ho, hx, Sem.run_bind, key, Result.andThen_ok, Sem.run_pure]
end
theorem u64n_lt (n : Int) : u64n n < 18446744073709551616 := by
  have h1 : IntKind.u64.wrap n = n % 18446744073709551616 := rfl
  unfold u64n
  rw [h1]
  omega
end Mur
namespace Go.Proofs.YtgbadghjnpbiaaaDoor
open Mur (b8s)
theorem digT : Mur.DigT Tryd.prog 29 5 := ⟨Tryd.underlying29, Tryd.underlying5, by kernel_rfl, by kernel_rfl, by kernel_rfl, by kernel_rfl⟩
end Go.Proofs.YtgbadghjnpbiaaaDoor
namespace Go.Proofs.YtgbadghjnpbiaaaDoor
open Go.RowKit Wk
open Mur (b8s attC z32 DigT litOf)
set_option maxRecDepth 100000
def litsD (d : List UInt8) : List Lit := ((List.range 32).map (litOf d)).flatten
theorem litsD_length (d : List UInt8) : (litsD d).length = 32 := by
  have h : ∀ l : List Nat, ((l.map (litOf d)).flatten).length = l.length := by
    intro l
    induction l with
    | nil => rfl
    | cons x l ih => simp [litOf, ih]
  rw [litsD, h, List.length_range]
theorem keyLits_att {k r t : List UInt8} {n : Int} (hk : k.length = 32) (hr : r.length = 32) (ht : t.length = 32) (hn : (Lit.int .i64 n).wf = true) : Tryd.prog.keyLits 3 36 (attC k r n t) = some (litsD k ++ (litsD r ++ (Lit.int .i64 n :: litsD t))) := by
  have hc : Tryd.prog.cellsOf 36 = 97 := by kernel_rfl
  have c1 : Tryd.prog.cellsOf 29 = 32 := by kernel_rfl
  have c2 : Tryd.prog.cellsOf 3 = 1 := by kernel_rfl
  have e1 : ((attC k r n t).drop 0).take 32 = b8s k := by
    show (b8s k ++ _).take 32 = _
    rw [List.take_left' (by rw [Mur.b8s_length, hk])]
  have e2 : ((attC k r n t).drop 32).take 32 = b8s r := by
    show ((b8s k ++ _).drop 32).take 32 = _
    rw [List.drop_left' (by rw [Mur.b8s_length, hk]), List.take_left' (by rw [Mur.b8s_length, hr])]
  have e3 : ((attC k r n t).drop 64).take 1 = [.int .i64 n] := by rw [Mur.drop64 hk hr]; rfl
  have e4 : ((attC k r n t).drop 65).take 32 = b8s t := by
    show ((attC k r n t).drop (64 + 1)).take 32 = _
    rw [← List.drop_drop, Mur.drop64 hk hr]
    show (b8s t).take 32 = _
    rw [List.take_of_length_le (by rw [Mur.b8s_length, ht]; exact Nat.le_refl _)]
  have l1 := fun (d : List UInt8) (hd : d.length = 32) => Mur.keyLits_dig digT d hd
  have l3 : Tryd.prog.keyLits 2 3 [.int .i64 n] = some [.int .i64 n] := by
    unfold Program.keyLits
    simp only [Tryd.underlying3]
    exact if_pos ⟨trivial, hn⟩
  unfold Program.keyLits
  simp only [Tryd.underlying36]
  rw [if_pos ⟨by rw [Mur.attC_length hk hr ht, hc], by decide +kernel⟩]
  simp only [List.mapM_cons, List.mapM_nil, c1, c2, e1, e2, e3, e4, l1 _ hk, l1 _ hr, l1 _ ht, l3]
  simp [litsD]
theorem litsD_inj {d d' : List UInt8} (hd : d.length = 32) (hd' : d'.length = 32) : litsD d = litsD d' ↔ d = d' := Mur.lits_inj hd hd'
theorem att_lits {k r t k' r' t' : List UInt8} {n n' : Int} (hk : k.length = 32) (hr : r.length = 32) (ht : t.length = 32) (hk' : k'.length = 32) (hr' : r'.length = 32) (ht' : t'.length = 32) :
    litsD k ++ (litsD r ++ (Lit.int .i64 n :: litsD t)) = litsD k' ++ (litsD r' ++ (Lit.int .i64 n' :: litsD t')) ↔ k = k' ∧ r = r' ∧ n = n' ∧ t = t' := by
  constructor
  · intro h
    have h1 := List.append_inj h (by rw [litsD_length, litsD_length])
    have h2 := List.append_inj h1.2 (by rw [litsD_length, litsD_length])
    have h3 := List.cons.inj h2.2
    exact ⟨(litsD_inj hk hk').1 h1.1, (litsD_inj hr hr').1 h2.1, by injection h3.1, (litsD_inj ht ht').1 h3.2⟩
  · rintro ⟨rfl, rfl, rfl, rfl⟩
    rfl
theorem eql_att {k r t k' r' t' : List UInt8} {n n' : Int} (hk : k.length = 32) (hr : r.length = 32) (ht : t.length = 32) (hk' : k'.length = 32) (hr' : r'.length = 32) (ht' : t'.length = 32) (hn : (Lit.int .i64 n).wf = true) (hn' : (Lit.int .i64 n').wf = true) (w : World) :
    (Op.equalIn 10000 36 (.agg (attC k r n t).toArray) (.agg (attC k' r' n' t').toArray)).run Tryd.prog w = .ok (decide (k = k' ∧ r = r' ∧ n = n' ∧ t = t')) w := by
  have hf : ∀ {a b c : List UInt8} {m : Int}, a.length = 32 → b.length = 32 → c.length = 32 → (Value.agg (attC a b m c).toArray).formed Tryd.prog 36 = true := by
    intro a b c m h1 h2 h3
    have hc : Tryd.prog.cellsOf 36 = 97 := by kernel_rfl
    simp [Value.formed, Tryd.underlying36, hc, Mur.attC_length h1 h2 h3]
  obtain ⟨b, hb, hiff⟩ := run_equalIn_deep (P := Tryd.prog) 9997 3 36 (by kernel_rfl) w 3 3 (.agg (attC k r n t).toArray) (.agg (attC k' r' n' t').toArray) _ _ (hf hk hr ht) (hf hk' hr' ht') (keyLits_att hk hr ht hn) (keyLits_att hk' hr' ht' hn')
  rw [att_lits hk hr ht hk' hr' ht'] at hiff
  rw [show (10000 : Nat) = 9997 + 3 from rfl, hb]
  congr 1
  by_cases e : k = k' ∧ r = r' ∧ n = n' ∧ t = t'
  · rw [decide_eq_true e]; exact hiff.2 e
  · rw [decide_eq_false e]
    cases b
    · rfl
    · exact absurd (hiff.1 rfl) e
section
variable {w : World} {a : Act} {o : Oper} {k r t k' r' t' : List UInt8} {n n' : Int}
theorem quiet_att : Tryd.prog.eqGuardType Tryd.prog.depth 36 = false := by kernel_rfl
theorem run_eql_att (x y : Operand) (ty : TypeId) (ho : o.op = .binOp .eql 36 x y ty) (hk : k.length = 32) (hr : r.length = 32) (ht : t.length = 32) (hk' : k'.length = 32) (hr' : r'.length = 32) (ht' : t'.length = 32) (hn : (Lit.int .i64 n).wf = true) (hn' : (Lit.int .i64 n').wf = true)
    (hx : a.eval x = .agg (attC k r n t).toArray) (hy : a.eval y = .agg (attC k' r' n' t').toArray) : (execOp a.eval o).run Tryd.prog w = .ok (.value (.bool (decide (k = k' ∧ r = r' ∧ n = n' ∧ t = t')))) w := by
  unfold execOp
  simp only [ho, hx, hy, Sem.run_bind, run_eqGuard_agg w _ _ _ _ _ _ quiet_att, Result.andThen_ok, run_eql_struct, Sem.run_pure, eql_att hk hr ht hk' hr' ht' hn hn']
theorem run_neq_att (x y : Operand) (ty : TypeId) (ho : o.op = .binOp .neq 36 x y ty) (hk : k.length = 32) (hr : r.length = 32) (ht : t.length = 32) (hk' : k'.length = 32) (hr' : r'.length = 32) (ht' : t'.length = 32) (hn : (Lit.int .i64 n).wf = true) (hn' : (Lit.int .i64 n').wf = true)
    (hx : a.eval x = .agg (attC k r n t).toArray) (hy : a.eval y = .agg (attC k' r' n' t').toArray) : (execOp a.eval o).run Tryd.prog w = .ok (.value (.bool (!decide (k = k' ∧ r = r' ∧ n = n' ∧ t = t')))) w := by
  unfold execOp
  simp only [ho, hx, hy, Sem.run_bind, run_eqGuard_agg w _ _ _ _ _ _ quiet_att, Result.andThen_ok, run_neq_struct, Sem.run_pure, eql_att hk hr ht hk' hr' ht' hn hn']
end
theorem wf64 {n : Int} (h1 : -9223372036854775808 ≤ n) (h2 : n ≤ 9223372036854775807) : (Lit.int .i64 n).wf = true := by
  have h3 : IntKind.i64.min = -9223372036854775808 := by decide
  have h4 : IntKind.i64.max = 9223372036854775807 := by decide
  simp only [Lit.wf, h3, h4, Bool.and_eq_true, decide_eq_true_eq]
  exact ⟨h1, h2⟩
theorem results_att {fn : Func} {p u : Tmp} (h : fn.results = #[.cell p 36, .tmp u]) (tmps : Array Value) (w : World) (g : Nat) (cs : Array Value) (fr : Nat × Nat) (v : Value) (hp : tmps.getD p undef = .pointer (some ⟨g, 0, none⟩)) (hg : w.heap[g]? = some (.cells cs 36 fr)) (hs : cs.size = 97) (hv : tmps.getD u undef = v) :
    (results fn tmps).run Tryd.prog w = .ok (.tuple #[.agg cs, v]) w := by
  rw [results_cell_tmp h, hp, hv]
  have := run_loadVar_row (P := Tryd.prog) w g 36 36 cs fr _ hg Tryd.underlying36 rfl (by rw [hs]; kernel_rfl)
  simp [asAddr, this]
end Go.Proofs.YtgbadghjnpbiaaaDoor
namespace Mur
open Go Go.RowKit Wk
section
variable {P : Program} {w : World} {a : Act} {o : Oper}
theorem byt_pre {A : Option Addr} {n : Nat} {l : List UInt8} (h : Byt w A n l) {k : Nat} (hk : k ≤ n) : Byt w A k (l.take k) := by
  refine ⟨by rw [List.length_take, h.1]; omega, fun hp => ?_⟩
  obtain ⟨g, off, rfl, hc⟩ := h.2 (by omega)
  refine ⟨g, off, rfl, fun j hj => ?_⟩
  rw [hc j (by omega)]
  simp [List.getD_eq_getElem?_getD, hj]
theorem byt_sub {g off n : Nat} {l : List UInt8} (h : Byt w (some ⟨g, off, none⟩) n l) (lo hi m : Nat) (h1 : lo + m = hi) (h2 : hi ≤ n) : Byt w (some ⟨g, off + lo, none⟩) m ((l.take hi).drop lo) := by
  subst h1
  have hp := byt_pre h h2
  refine ⟨by rw [List.length_drop, hp.1]; omega, fun hm => ?_⟩
  obtain ⟨g', off', e, hc⟩ := hp.2 (by omega)
  injection e with e
  injection e with e1 e2
  subst e1 e2
  refine ⟨g, off + lo, rfl, fun j hj => ?_⟩
  rw [Nat.add_assoc, hc (lo + j) (by omega)]
  simp [List.getD_eq_getElem?_getD]
theorem run_cut3 (t : TypeId) (x : Operand) (ol : Option Operand) (oh om : Operand) (ho : o.op = .slice t x ol (some oh) (some om)) (e : TypeId) (ht : P.underlying t = some (.slice e)) (hsz : (P.info? e).map (·.size) = some 1) (g off n c lo hi mx m : Nat)
    (hx : a.eval x = .slice (some ⟨g, off, none⟩) n c) (hl : ol.map a.eval = some (.int .i64 ((lo : Nat) : Int)) ∨ (ol = none ∧ lo = 0)) (hh : a.eval oh = .int .i64 ((hi : Nat) : Int)) (hm : a.eval om = .int .i64 ((mx : Nat) : Int)) (h1 : lo + m = hi) (h2 : hi = mx) (h3 : mx ≤ c) (h4 : 0 < m) :
    (execOp a.eval o).run P w = .ok (.value (.slice (some ⟨g, off + lo, none⟩) m m)) w := by
  subst h2
  obtain ⟨i, hi', hs⟩ := Option.map_eq_some_iff.1 hsz
  have hne : ¬ hi = lo := by omega
  have e1 : hi - lo = m := by omega
  have e2 : (⟨g, off, none⟩ : Addr).add lo = ⟨g, off + lo, none⟩ := Addr.add_mid g off lo
  unfold execOp
  rcases hl with hl | ⟨rfl, rfl⟩
  · simp only [ho, hx, hl, hh, hm, Option.map_some]
    simp [Instr.sliceAt, Instr.slice, run_underlying ht, Instr.sliceBounds, Go.sizeOf, typeInfo, hi', hs, run_sliceBound w .i64 ((lo : Nat) : Int) hi _ (by omega) (by omega), run_sliceBound w .i64 ((hi : Nat) : Int) hi _ (by omega) (by omega), run_sliceBound w .i64 ((hi : Nat) : Int) c _ (by omega) (by omega), e1, hne, e2]
  · have e3 : hi = m := by omega
    subst e3
    simp only [ho, hx, hh, hm, Option.map_some, Option.map_none]
    simp [Instr.sliceAt, Instr.slice, run_underlying ht, Instr.sliceBounds, Go.sizeOf, typeInfo, hi', run_sliceBound w .i64 ((hi : Nat) : Int) hi _ (by omega) (by omega), run_sliceBound w .i64 ((hi : Nat) : Int) c _ (by omega) (by omega), Addr.add_mid]
theorem cutA_at {g off c l : Nat} (h : l < c) : cutA (some ⟨g, off, none⟩) c l = some ⟨g, off + l, none⟩ := by
  have hne : ¬ c = l := by omega
  have hne2 : ¬ c - l = 0 := by omega
  have e2 : (⟨g, off, none⟩ : Addr).add l = ⟨g, off + l, none⟩ := Addr.add_mid g off l
  unfold cutA
  first | simp [hne, e2] | simp [hne2, e2]
theorem run_from_at (t : TypeId) (x y : Operand) (ho : o.op = .slice t x (some y) none none) (e : TypeId) (ht : P.underlying t = some (.slice e)) (hsz : (P.info? e).map (·.size) = some 1) (g off n c l m : Nat)
    (hx : a.eval x = .slice (some ⟨g, off, none⟩) n c) (hy : a.eval y = .int .i64 (l : Int)) (hl : l < n) (hnc : n ≤ c) (hm : n - l = m) : (execOp a.eval o).run P w = .ok (.value (.slice (some ⟨g, off + l, none⟩) m (c - l))) w := by
  rw [run_op_from t x y ho e ht hsz _ n c l hx hy (by omega) hnc, cutA_at (by omega), hm]
theorem copy_mid (d s : Operand) (dT sT : TypeId) (ho : o.op = .call { callee := .builtin .copy, args := #[d, s], argTypes := #[dT, sT] }) (e : TypeId) (hu : P.underlying dT = some (.slice e)) (hsz : (P.info? e).map (·.size) = some 1)
    (g off D c : Nat) (hd : a.eval d = .slice (some ⟨g, off, none⟩) D c) (A : Option Addr) (n c2 : Nat) (hs : a.eval s = .slice A n c2) (t : TypeId) (L : List Value) (r : List UInt8) (hg : w.heap[g]? = some (.cells L.toArray t (0, 0))) (hb : Byt w A n r) (hn : n ≤ D) (hp : 0 < n) (hf : off + n ≤ L.length)
    (R : List Value) (hR : splice L off (b8s r) = R) :
    ∃ v w', (execOp a.eval o).run P w = .ok (.value v) w' ∧ v = .int .i64 ((n : Nat) : Int) ∧ w'.heap[g]? = some (.cells R.toArray t (0, 0)) ∧ Chg [g] w w' := by
  subst hR
  have hrn := hb.1
  obtain ⟨g', off', rfl, hc⟩ := hb.2 hp
  have hsrc : ∀ j v, (b8s r)[j]? = some v → w.cell? ((⟨g', off', none⟩ : Addr).add j) = some v := by
    intro j v hv
    have hj : j < r.length := by
      have := (List.getElem?_eq_some_iff.1 hv).1
      simpa [b8s_length] using this
    rw [Addr.add_mid]
    rw [b8s_get r j hj] at hv
    injection hv with hv
    subst hv
    exact hc j (by omega)
  have hrun := run_copy_row (P := P) w dT sT o.type e g off D c ⟨g', off', none⟩ n c2 L.toArray t (b8s r) hu hsz hg (by rw [b8s_length, hrn]; exact (Nat.min_eq_left hn).symm) hsrc (by simp [b8s_length]; omega) (b8s_one r)
  refine ⟨.int .i64 ((n : Nat) : Int), w.setRow g (splice L off (b8s r)).toArray, ?_, rfl, setRow_heap w g _ _ t _ hg, ⟨rfl, rfl, rfl, by simp [World.setRow], fun k hk ho => setRow_other _ _ _ _ (fun h => ho.1 h)⟩⟩
  unfold execOp
  simp only [ho, resolve, invoke, builtin, Sem.run_bind, Sem.run_pure, Result.andThen_ok, List.map_toArray, List.map_cons, List.map_nil, hs, hd, hrun, goInt, b8s_length, hrn]
  congr 2
  unfold splice
  simp [b8s_length, hrn]
theorem att_sp0 {k r t x : List UInt8} {n : Int} (hk : k.length = 32) (hx : x.length = 32) : splice (attC k r n t) 0 (b8s x) = attC x r n t := splice_mid (A := []) (B := b8s k) (C := b8s r ++ (.int .i64 n :: b8s t)) (vs := b8s x) rfl (by rw [b8s_length, b8s_length, hk, hx])
theorem att_sp32 {k r t x : List UInt8} {n : Int} (hk : k.length = 32) (hr : r.length = 32) (hx : x.length = 32) : splice (attC k r n t) 32 (b8s x) = attC k x n t := splice_mid (A := b8s k) (B := b8s r) (C := .int .i64 n :: b8s t) (vs := b8s x) (by rw [b8s_length, hk]) (by rw [b8s_length, b8s_length, hr, hx])
theorem att_sp65 {k r t x : List UInt8} {n : Int} (hk : k.length = 32) (hr : r.length = 32) (ht : t.length = 32) (hx : x.length = 32) : splice (attC k r n t) 65 (b8s x) = attC k r n x := by
  have := splice_mid (A := b8s k ++ (b8s r ++ [Value.int .i64 n])) (B := b8s t) (C := []) (vs := b8s x) (off := 65) (by simp [b8s_length, hk, hr]) (by rw [b8s_length, b8s_length, hx, ht])
  simpa [attC] using this
theorem store_len (ty : TypeId) (x y : Operand) (ho : o.op = .store ty x y) (hi : (P.info? ty).map (·.size) = some 1) (g : Nat) (hx : a.eval x = .pointer (some ⟨g, 64, none⟩)) (m : Int) (hy : a.eval y = .int .i64 m)
    (T : TypeId) (k r t : List UInt8) (n : Int) (hk : k.length = 32) (hr : r.length = 32) (ht : t.length = 32) (hg : w.heap[g]? = some (.cells (attC k r n t).toArray T (0, 0))) :
    ∃ w', (execOp a.eval o).run P w = .ok .skip w' ∧ w'.heap[g]? = some (.cells (attC k r m t).toArray T (0, 0)) ∧ Chg [g] w w' := by
  obtain ⟨w', h1, h2, h3⟩ := store1 (P := P) ty x y ho hi g 64 hx _ hy rfl T _ hg (by rw [List.size_toArray, attC_length hk hr ht]; omega)
  refine ⟨w', h1, ?_, h3⟩
  rw [h2, List.setIfInBounds_toArray]
  congr 3
  unfold attC
  rw [← List.append_assoc, List.set_append_right _ _ (by rw [List.length_append, b8s_length, b8s_length, hk, hr]; omega), List.length_append, b8s_length, b8s_length, hk, hr]
  simp
theorem shl8_64 (t ty : TypeId) (x y : Operand) (ho : o.op = .binOp .shl t x y ty) (u : Nat) (yk : IntKind) (hx : a.eval x = .int .u64 ((u : Nat) : Int)) (hy : a.eval y = .int yk ((8 : Nat) : Int)) (hu : u < 72057594037927936) : (execOp a.eval o).run P w = .ok (.value (.int .u64 ((u * 256 : Nat) : Int))) w := by
  have key : (Op.shift .shl .u64 ((u : Nat) : Int) yk ((8 : Nat) : Int)).run P w = .ok (.int .u64 ((u * 256 : Nat) : Int)) w := by
    have h1 : IntKind.u64.wrap (((u : Nat) : Int) * 2 ^ 8) = ((u * 256 : Nat) : Int) := by
      have : ((u : Nat) : Int) * 2 ^ 8 = ((u * 256 : Nat) : Int) := by omega
      rw [this, u64_nat (by omega)]
    show Sem.run P (pure (Value.int .u64 (IntKind.u64.wrap (((u : Nat) : Int) * 2 ^ 8))) : Sem Value) w = _
    rw [h1]
    rfl
  have hg : (eqGuard .shl t x y (.int .u64 ((u : Nat) : Int)) (.int yk ((8 : Nat) : Int))).run P w = .ok () w := rfl
  have key2 : (binOp .shl t (.int .u64 ((u : Nat) : Int)) (.int yk ((8 : Nat) : Int))).run P w = .ok (.int .u64 ((u * 256 : Nat) : Int)) w := key
  unfold execOp
  simp only [ho, hx, hy]
  simp only [Sem.run_bind, Sem.run_pure, hg, Result.andThen_ok, key2]
theorem or_byte (u b : Nat) (hb : b < 256) : u * 256 ||| b = u * 256 + b := by
  have := Nat.two_pow_add_eq_or_of_lt (i := 8) (b := b) (by simpa using hb) u
  rw [Nat.mul_comm]
  exact this.symm
theorem or64 (t ty : TypeId) (x y : Operand) (ho : o.op = .binOp .or t x y ty) (u b : Nat) (hx : a.eval x = .int .u64 ((u * 256 : Nat) : Int)) (hy : a.eval y = .int .u64 ((b : Nat) : Int)) (hb : b < 256) (hu : u < 72057594037927936) : (execOp a.eval o).run P w = .ok (.value (.int .u64 ((u * 256 + b : Nat) : Int))) w := by
  have hbits : bits .or .u64 ((u * 256 : Nat) : Int) ((b : Nat) : Int) = ((u * 256 + b : Nat) : Int) := by
    show IntKind.u64.wrap ((BitVec.ofInt 64 ((u * 256 : Nat) : Int) ||| BitVec.ofInt 64 ((b : Nat) : Int)).toNat : Int) = _
    rw [BitVec.ofInt_natCast, BitVec.ofInt_natCast, BitVec.toNat_or, BitVec.toNat_ofNat, BitVec.toNat_ofNat, Nat.mod_eq_of_lt (by omega), Nat.mod_eq_of_lt (by omega), or_byte u b hb, u64_nat (by omega)]
  have key : (binOp .or t (.int .u64 ((u * 256 : Nat) : Int)) (.int .u64 ((b : Nat) : Int))).run P w = .ok (.int .u64 (bits .or .u64 ((u * 256 : Nat) : Int) ((b : Nat) : Int))) w := rfl
  have hg : (eqGuard .or t x y (.int .u64 ((u * 256 : Nat) : Int)) (.int .u64 ((b : Nat) : Int))).run P w = .ok () w := rfl
  rw [hbits] at key
  unfold execOp
  simp only [ho, hx, hy]
  simp only [Sem.run_bind, Sem.run_pure, hg, Result.andThen_ok, key]
end
def be8 (e : List UInt8) : Nat :=
  (((((((0 * 256 + (e.getD 0 0).toNat) * 256 + (e.getD 1 0).toNat) * 256 + (e.getD 2 0).toNat) * 256 + (e.getD 3 0).toNat) * 256 + (e.getD 4 0).toNat) * 256 + (e.getD 5 0).toNat) * 256 + (e.getD 6 0).toNat) * 256 + (e.getD 7 0).toNat
end Mur
namespace Mur
open Go
theorem may_u64 {n : Int} (h : may n) : u64n n < 5001 ∧ ((u64n n : Nat) : Int) = n := by
  have h1 : IntKind.u64.wrap n = n % 18446744073709551616 := rfl
  unfold may at h
  unfold u64n
  rw [h1]
  omega
end Mur
namespace Mur
open Go Go.RowKit Wk
open Go.Lib (compareBytes)
section
variable {P : Program} {w : World} {a : Act} {o : Oper}
theorem ext_run {w1 : World} (f : FuncId) (xs : List Operand) (ts : Array TypeId) (vals : List Value) (ho : o.op = .call { callee := .value (.func f), args := xs.toArray, argTypes := ts }) (hv : xs.map a.eval = vals) {v : Value} (h : (callFunc f vals.toArray).run P w = .ok (.value v) w1) : (execOp a.eval o).run P w = .ok (.value v) w1 := by
  obtain ⟨dst, op, ty, pos, after, guard⟩ := o
  simp only at ho
  subst ho
  rw [execOp_call_go, List.map_toArray, hv, show #[] ++ vals.toArray ++ #[] = vals.toArray by simp, h]
theorem run_nz {f : FuncId} {fn : Func} (ps : Array TypeId) (t e : TypeId) (hf : P.funcs[f]? = some fn) (hname : (fn.name == "runtime.NumGoroutine") = false) (hb : fn.body.isNone = true) (hn : Extern.findNext fn = none) (he : Extern.find fn = some (Extern.BytealgMakeNoZero.makeNoZero ps #[t]))
    (ht : P.underlying t = some (.slice e)) (x : Operand) (ts : Array TypeId) (ho : o.op = .call { callee := .value (.func f), args := #[x], argTypes := ts }) (n : Nat) (hx : a.eval x = .int .i64 ((n : Nat) : Int)) (hm : n ≤ 1000) :
    ∃ v1 w1, (execOp a.eval o).run P w = .ok (.value v1) w1 ∧ ∃ cs : List Value, v1 = .slice (some ⟨w.heap.size, 0, none⟩) n cs.length ∧ w1.heap[w.heap.size]? = some (.cells cs.toArray e (0, 0)) ∧ n ≤ cs.length ∧ Chg [] w w1 ∧ w.heap.size < w1.heap.size := by
  obtain ⟨cs, h1, h2, _⟩ := Lib.run_makeNoZero (P := P) (w := w) ps t e ht n (by omega)
  refine ⟨_, _, ext_run f [x] ts [.int .i64 ((n : Nat) : Int)] ho (by simp [hx]) (by rw [run_callFunc_extern hf hname hb hn he]; show ((Extern.BytealgMakeNoZero.makeNoZero ps #[t] #[.int .i64 n]).run P w).andThen _ = _; rw [h1]; rfl), cs.toList, by simp, by simpa using heap_alloc_new w.drew.drew _, by simpa using h2, ?_, by simp⟩
  exact ⟨rfl, rfl, rfl, by simp, fun k hk _ => Below.heap_alloc w.drew.drew _ k hk⟩
theorem run_loadBytes {g : Nat} : ∀ (l : List UInt8) (off : Nat) (acc : ByteArray), (∀ j, j < l.length → w.cell? ⟨g, off + j, none⟩ = some (.int .u8 ((l.getD j 0).toNat : Int))) → (Extern.Bytes.loadBytes ⟨g, off, none⟩ l.length acc).run P w = .ok ⟨acc.data ++ l.toArray⟩ w
  | [], off, acc, _ => by simp [Extern.Bytes.loadBytes]
  | x :: l, off, acc, h => by
    have h0 := h 0 (by simp)
    have hadd : (⟨g, off, none⟩ : Addr).add 1 = ⟨g, off + 1, none⟩ := Addr.add_mid g off 1
    have hl : (load ⟨g, off, none⟩).run P w = .ok (.int .u8 ((x.toNat : Nat) : Int)) w := by
      have : w.cell? ⟨g, off, none⟩ = some (.int .u8 ((x.toNat : Nat) : Int)) := by simpa using h0
      simp [load, Sem.run, this]
    have ih := run_loadBytes l (off + 1) (acc.push x) (fun j hj => by
      have := h (j + 1) (by simp; omega)
      rw [show off + 1 + j = off + (j + 1) by omega, this]
      simp)
    have hx : (((x.toNat : Nat) : Int).toNat.toUInt8) = x := by simp
    simp only [List.length_cons, Extern.Bytes.loadBytes, Sem.run_bind, hl, Result.andThen_ok, hadd, hx, ih]
    congr 1
    simp [ByteArray.push]
theorem run_bytesOf {A : Option Addr} {n c : Nat} {l : List UInt8} (h : Byt w A n l) : (Extern.Bytes.bytesOf (.slice A n c)).run P w = .ok ⟨l.toArray⟩ w := by
  obtain ⟨hl, hc⟩ := h
  rcases Nat.eq_zero_or_pos n with h0 | h0
  · subst h0
    obtain rfl : l = [] := List.eq_nil_of_length_eq_zero hl
    cases A with
    | none => rfl
    | some ad => simp [Extern.Bytes.bytesOf, Extern.Bytes.loadBytes]; rfl
  · obtain ⟨g, off, rfl, hcell⟩ := hc h0
    have := run_loadBytes (P := P) (w := w) (g := g) l off .empty (fun j hj => hcell j (by omega))
    rw [hl] at this
    simpa [Extern.Bytes.bytesOf] using this
theorem run_cmp {f : FuncId} {fn : Func} (hf : P.funcs[f]? = some fn) (hname : (fn.name == "runtime.NumGoroutine") = false) (hb : fn.body.isNone = true) (hn : Extern.findNext fn = none) (he : Extern.find fn = some Extern.BytealgCompare.compare)
    (x y : Operand) (ts : Array TypeId) (ho : o.op = .call { callee := .value (.func f), args := #[x, y], argTypes := ts }) (A : Option Addr) (n c : Nat) (l : List UInt8) (B : Option Addr) (m d : Nat) (r : List UInt8) (hx : a.eval x = .slice A n c) (hy : a.eval y = .slice B m d) (h1 : Byt w A n l) (h2 : Byt w B m r) :
    (execOp a.eval o).run P w = .ok (.value (.int .i64 (compareBytes l r))) w := by
  have key : (Extern.BytealgCompare.compare #[.slice A n c, .slice B m d]).run P w = .ok (.int .i64 (compareBytes l r)) w := by
    change Sem.run P (do pure (goInt (Extern.BytealgCompare.cmp (← Extern.Bytes.bytesOf (.slice A n c)) (← Extern.Bytes.bytesOf (.slice B m d))))) w = _
    simp only [Sem.run_bind, run_bytesOf h1, run_bytesOf h2, Result.andThen_ok, Sem.run_pure, Lib.cmp_eq, goInt]
  exact ext_run f [x, y] ts [.slice A n c, .slice B m d] ho (by simp [hx, hy]) (by rw [run_callFunc_extern hf hname hb hn he]; show ((Extern.BytealgCompare.compare #[.slice A n c, .slice B m d]).run P w).andThen _ = _; rw [key]; rfl)
theorem copy_none (d s : Operand) (dT sT : TypeId) (ho : o.op = .call { callee := .builtin .copy, args := #[d, s], argTypes := #[dT, sT] }) (e : TypeId) (hu : P.underlying dT = some (.slice e)) (hsz : (P.info? e).map (·.size) = some 1) (ad : Addr) (D c : Nat) (hd : a.eval d = .slice (some ad) D c) (hs : a.eval s = .slice none 0 0) :
    (execOp a.eval o).run P w = .ok (.value (.int .i64 0)) w := by
  have := run_copy_nil (P := P) w dT sT o.type e ad D c hu (by rw [hsz]; rfl)
  unfold execOp
  simp only [ho, resolve, invoke, builtin, Sem.run_bind, Sem.run_pure, Result.andThen_ok, List.map_toArray, List.map_cons, List.map_nil, hs, hd, this, goInt]
end
theorem fill_step {cs : List Value} {acc r : List UInt8} {p m q : Nat} (ha : acc.length = p) (hr : r.length = m) (hq : p + m = q) (hl : q ≤ cs.length) : splice (b8s acc ++ cs.drop p) p (b8s r) = b8s (acc ++ r) ++ cs.drop q := by
  subst hq
  unfold splice
  rw [List.take_left' (by rw [b8s_length, ha]), b8s_append, b8s_length, hr, List.append_assoc]
  congr 2
  rw [← List.drop_drop, List.drop_left' (by rw [b8s_length, ha]), List.drop_drop]
theorem fill_len {cs : List Value} {acc : List UInt8} {p : Nat} (ha : acc.length = p) (hl : p ≤ cs.length) : (b8s acc ++ cs.drop p).length = cs.length := by
  rw [List.length_append, b8s_length, List.length_drop, ha]
  omega
theorem byt_fill {w : World} {g n : Nat} {t : TypeId} {fr : Nat × Nat} {l : List UInt8} {cs : List Value} (h : w.heap[g]? = some (.cells (b8s l ++ cs).toArray t fr)) (hl : l.length = n) : Byt w (some ⟨g, 0, none⟩) n l := byt_rng (range_sub 0 (b8s l) h (by simp)) hl
def rawL (k r : List UInt8) (n : Int) (t : List UInt8) : List UInt8 := ((k ++ r) ++ e8 (u64n n)) ++ t
theorem e8_be' (u : Nat) (h : u < 18446744073709551616) : be8 (e8 u) = u := by
  have q : ∀ x : Nat, (UInt8.ofNat x).toNat = x % 256 := fun x => by simp
  simp only [be8, e8, List.getD_cons_zero, List.getD_cons_succ, q]
  omega
theorem u64n_inj {n n' : Int} (h1 : -9223372036854775808 ≤ n ∧ n ≤ 9223372036854775807) (h2 : -9223372036854775808 ≤ n' ∧ n' ≤ 9223372036854775807) (h : u64n n = u64n n') : n = n' := by
  have e1 : IntKind.u64.wrap n = n % 18446744073709551616 := rfl
  have e2 : IntKind.u64.wrap n' = n' % 18446744073709551616 := rfl
  unfold u64n at h
  rw [e1, e2] at h
  omega
theorem wf_bounds {n : Int} (h : (Lit.int .i64 n).wf = true) : -9223372036854775808 ≤ n ∧ n ≤ 9223372036854775807 := by
  have h3 : IntKind.i64.min = -9223372036854775808 := by decide
  have h4 : IntKind.i64.max = 9223372036854775807 := by decide
  simpa only [Lit.wf, h3, h4, Bool.and_eq_true, decide_eq_true_eq] using h
theorem rawL_inj {k r t k' r' t' : List UInt8} {n n' : Int} (hk : k.length = 32) (hr : r.length = 32) (hk' : k'.length = 32) (hr' : r'.length = 32) (hn : (Lit.int .i64 n).wf = true) (hn' : (Lit.int .i64 n').wf = true) : rawL k r n t = rawL k' r' n' t' ↔ k = k' ∧ r = r' ∧ n = n' ∧ t = t' := by
  constructor
  · intro h
    unfold rawL at h
    simp only [List.append_assoc] at h
    have h2 := List.append_inj h (by rw [hk, hk'])
    have h3 := List.append_inj h2.2 (by rw [hr, hr'])
    have h4 := List.append_inj h3.2 (by rw [e8_length, e8_length])
    have h5 := congrArg be8 h4.1
    rw [e8_be' _ (u64n_lt n), e8_be' _ (u64n_lt n')] at h5
    exact ⟨h2.1, h3.1, u64n_inj (wf_bounds hn) (wf_bounds hn') h5, h4.2⟩
  · rintro ⟨rfl, rfl, rfl, rfl⟩
    rfl
theorem cmp_self : ∀ l : List UInt8, compareBytes l l = 0
  | [] => rfl
  | x :: l => by
    unfold compareBytes
    rw [if_neg (UInt8.lt_irrefl x), if_neg (UInt8.lt_irrefl x)]
    exact cmp_self l
theorem cmp_flip : ∀ l r : List UInt8, compareBytes r l = - compareBytes l r
  | [], [] => rfl
  | [], _ :: _ => rfl
  | _ :: _, [] => rfl
  | x :: l, y :: r => by
    unfold compareBytes
    by_cases h1 : x < y
    · have h2 : ¬ y < x := UInt8.lt_asymm h1
      rw [if_neg h2, if_pos h1, if_pos h1]
      rfl
    · by_cases h2 : y < x
      · rw [if_pos h2, if_neg h1, if_pos h2]
      · rw [if_neg h2, if_neg h1, if_neg h1, if_neg h2]
        exact cmp_flip l r
theorem cmp_zero : ∀ l r : List UInt8, compareBytes l r = 0 → l = r
  | [], [], _ => rfl
  | [], _ :: _, h => by cases h
  | _ :: _, [], h => by cases h
  | x :: l, y :: r, h => by
    unfold compareBytes at h
    by_cases h1 : x < y
    · rw [if_pos h1] at h; cases h
    · rw [if_neg h1] at h
      by_cases h2 : y < x
      · rw [if_pos h2] at h; cases h
      · rw [if_neg h2] at h
        have : x = y := UInt8.le_antisymm (UInt8.not_lt.1 h2) (UInt8.not_lt.1 h1)
        rw [this, cmp_zero l r h]
theorem cmp_trans : ∀ l r s : List UInt8, compareBytes l r < 0 → compareBytes r s < 0 → compareBytes l s < 0
  | [], [], _, h, _ => by simp [compareBytes] at h
  | [], _ :: _, [], _, h => by simp [compareBytes] at h
  | [], _ :: _, _ :: _, _, _ => by simp [compareBytes]
  | _ :: _, [], _, h, _ => by simp [compareBytes] at h
  | _ :: _, _ :: _, [], _, h => by simp [compareBytes] at h
  | x :: l, y :: r, z :: s, h1, h2 => by
    unfold compareBytes at h1 h2 ⊢
    by_cases a1 : x < y
    · by_cases a2 : y < z
      · rw [if_pos (UInt8.lt_trans a1 a2)]; decide
      · rw [if_neg a2] at h2
        by_cases a3 : z < y
        · rw [if_pos a3] at h2; exact absurd h2 (by decide)
        · have : y = z := UInt8.le_antisymm (UInt8.not_lt.1 a3) (UInt8.not_lt.1 a2)
          subst this
          rw [if_pos a1]; decide
    · rw [if_neg a1] at h1
      by_cases a2 : y < x
      · rw [if_pos a2] at h1; exact absurd h1 (by decide)
      · rw [if_neg a2] at h1
        have : x = y := UInt8.le_antisymm (UInt8.not_lt.1 a2) (UInt8.not_lt.1 a1)
        subst this
        by_cases a3 : x < z
        · rw [if_pos a3]; decide
        · rw [if_neg a3] at h2 ⊢
          by_cases a4 : z < x
          · rw [if_pos a4] at h2; exact absurd h2 (by decide)
          · rw [if_neg a4] at h2 ⊢
            exact cmp_trans l r s h1 h2
end Mur
namespace Mur
open Go Go.RowKit Wk
open Go.Lib (compareBytes)
end Mur
namespace Go.Proofs.YtgbadghjnpbiaaaDoor
open Go.RowKit
open Mur (St w32 u32s cell_u32s free_row set_u32s b8s dgV Byt cutA)
set_option maxRecDepth 100000
theorem Sum_var (b : List UInt8) (A : Option Addr) (n c : Nat) (w : World) (hv : ShaVars w) (hb : Byt w A n b) (hnc : n ≤ c) (hA : A = none → c = 0) (hn : n ≤ 140737488351232) :
    Calls Tryd.prog 78 #[.slice A n c] w fun e w' => ∃ d, Hid (d = Mur.sha b) ∧ d.length = 32 ∧ e = .returned (.agg (b8s d).toArray) ∧ Below w.heap.size w w' := by
  have HV := Go.Lib.hid hv; clear hv
  have HB := Go.Lib.hid hb; clear hb
  have HA := Go.Lib.hid hA; clear hA
  have hz := dgV_size (show (List.replicate 32 (0 : UInt8)).length = 32 by rfl)
  have HZ := Go.Lib.hid hz; clear hz
  go_enter Tryd.func78, Tryd.ntmps78
  have hb1 : ∀ o, Below w.heap.size w (w.alloc o) := fun o => (Below.refl _ _).alloc (Nat.le_refl _) o
  have HB1 := Go.Lib.hid hb1; clear hb1
  go_wp2_with (first
    | (go_at_call 93; refine (sum_var b A n c _ (HV.out.below (HB1.out _)) (HB.out.below (HB1.out _)) hnc HA.out hn).mono ?_; rintro e w2 ⟨d, hd, hdl, rfl, hB2⟩; have hDZ := Go.Lib.hid (dgV_size hdl); clear hdl)
    | (refine wpList_store_row rfl 29 (.tmp 2) (.tmp 4) rfl w.heap.size (b8s d).toArray rfl rfl 29 (b8s (List.replicate 32 0)).toArray (Mur.hp_below hB2 (Mur.hp_a1 _ _)) (by rw [hDZ.out]; kernel_rfl) (by rw [HZ.out, hDZ.out]) (Mur.b8s_all _) ?_))
  refine bodyPost_ret (v := .agg (b8s d).toArray) (results_cell_row rfl _ _ w.heap.size 29 (b8s d).toArray (0, 0) _ rfl (setRow_heap _ _ _ _ _ _ (Mur.hp_below hB2 (Mur.hp_a1 _ _))) Tryd.underlying29 rfl (by rw [hDZ.out]; kernel_rfl)) rfl ⟨d, hd, by simpa [Mur.b8s_length] using hDZ.out, rfl, below_setRow ((HB1.out _).trans (hB2.mono (by simp))) (Nat.le_refl _) _⟩
end Go.Proofs.YtgbadghjnpbiaaaDoor
namespace Go.Proofs.YtgbadghjnpbiaaaDoor
open Go.RowKit Wk
open Mur (b8s Byt Own8 Seg Segs flat cutA)
set_option maxRecDepth 100000
set_option maxHeartbeats 4000000
def With_F1 (b : Array Value) (u1 : Value) (u2 : Value) (u4 : Value) (u6 : Value) : Act := ⟨#[gd b 0, u1, u2, gd b 3, u4, gd b 5, u6, gd b 7, gd b 8, gd b 9, gd b 10, gd b 11, gd b 12, gd b 13, gd b 14, gd b 15, gd b 16], []⟩
theorem key_any (s : List UInt8) (A : Option Addr) (n c : Nat) (w : World) (hv : ShaVars w) (hb : Byt w A n s) (hnc : n ≤ c) (ha : A = none → c = 0) (hn : n ≤ 140737488351232) : Calls Tryd.prog 76 #[.slice A n c] w fun e w' => ∃ d, Hid (d = Mur.hkey s) ∧ d.length = 64 ∧ e = .returned (.agg (b8s d).toArray) ∧ Chg [] w w' := by
 have HV := Go.Lib.hid hv
 clear hv
 have HB := Go.Lib.hid hb
 clear hb
 have HA := Go.Lib.hid ha
 clear ha
 refine calls_of_wp Tryd.func76 rfl ?_
 refine wp_seq (reg ?_)
 refine rX 0 2 rfl rfl (new_ex (pt w.heap.size 0) Z64 129 (by kernel_rfl)) ?_
 rintro _ W1 ⟨rfl, hb1, ch1, sz1⟩
 have zz1 := ch1.size
 refine rEnd 1 rfl (nxt (wp_seq (wp_seq (reg ?_))))
 refine rP 0 4 (.slice A n c) ?_
 refine rP 1 5 (.int .i64 ((n : Nat) : Int)) ?_
 by_cases hx1 : ((n : Nat) : Int) > (64 : Int)
 ·refine rQ 2 6 _ rfl rfl (qboolT (b := decide (((n : Nat) : Int) > (64 : Int))) (decide_eq_true (by first | exact hx1 | omega))) ?_
  refine rEnd 3 rfl (nxt (wp_cond_true (by kernel_rfl) (wp_seq (reg ?_))))
  refine rP 0 7 (.slice A n c) ?_
  refine rC 1 8 78 [.tmp 7] #[22] [.slice A n c] ?_
  have kk1 : Chg [] w W1 := Chg.step ((Chg.refl _).more (by simp)) ch1 trivial
  refine (Sum_var s A n c W1 (HV.out.below (Chg.below0 kk1)) (Mur.byt_chg HB.out kk1 (fun g off e hl => trivial)) (by omega) HA.out (by omega)).mono ?_
  rintro _ W2 ⟨dd1, hd1, hdl1, rfl, hB1⟩
  have ch2 := Chg.ofBelow hB1
  have zz2 := ch2.size
  refine ⟨_, rfl, ?_⟩
  refine rX 2 3 rfl rfl (new_ex (pt W2.heap.size 0) Z32 29 (by kernel_rfl)) ?_
  rintro _ W3 ⟨rfl, hb2, ch3, sz2⟩
  have zz3 := ch3.size
  refine rY 3 rfl rfl (Mur.storeAll 29 (.tmp 3) (.tmp 8) rfl W2.heap.size (by kernel_rfl) dd1 32 hdl1 (by kernel_rfl) (by kernel_rfl) 29 Z32 hb2 rfl) ?_
  rintro W4 ⟨hb3, ch4⟩
  have zz4 := ch4.size
  refine rEnd 4 rfl (nxt (reg ?_))
  refine rQ 0 9 (.slice (some ⟨W2.heap.size, 0, none⟩) 32 32) rfl rfl (Mur.arr_slice 29 5 (.tmp 3) 32 rfl Tryd.underlying29 (by kernel_rfl) W2.heap.size (by kernel_rfl)) ?_
  refine rP 1 0 (.slice (some ⟨W2.heap.size, 0, none⟩) 32 32) ?_
  refine rEnd 2 rfl (nxt (wp_seq (reg ?_)))
  refine rQ 0 10 (.slice (some ⟨w.heap.size, 0, none⟩) 64 64) rfl rfl (Mur.arr_slice 129 5 (.tmp 2) 64 rfl Tryd.underlying129 (by kernel_rfl) w.heap.size (by kernel_rfl)) ?_
  refine rP 1 11 (.slice (some ⟨W2.heap.size, 0, none⟩) 32 32) ?_
  refine rX 2 12 rfl rfl (Mur.copy8 (.tmp 10) (.tmp 11) 22 22 rfl 5 Tryd.underlying22 (by kernel_rfl) w.heap.size 64 64 (by kernel_rfl) (some ⟨W2.heap.size, 0, none⟩) 32 32 (by kernel_rfl) 129 (List.replicate 64 (0 : UInt8)) dd1 ((Chg.hp ch4 (Chg.hp ch3 (Chg.hp ch2 hb1 trivial) trivial) ⟨by omega, trivial⟩)) rfl (Mur.byt_blk dd1 hdl1 hb3) (by omega) (fun h => by cases h)) ?_
  rintro _ W5 ⟨rfl, hb4, ch5⟩
  have hcl1 : (dd1 ++ (List.replicate 64 (0 : UInt8)).drop 32).length = 64 := by have h1 := (Mur.byt_blk dd1 hdl1 hb3).1; have h2 : (List.replicate 64 (0 : UInt8)).length = 64 := (by simp); simp only [List.length_append, List.length_drop]; omega
  obtain ⟨cp1, hcp1⟩ : ∃ l, Hid (l = dd1 ++ (List.replicate 64 (0 : UInt8)).drop 32) := ⟨_, rfl⟩
  rw [← hcp1.out] at hb4 hcl1
  have zz5 := ch5.size
  refine rEnd 3 rfl (nxt (wp_seq (reg ?_)))
  refine rQ 0 13 (.agg ((b8s cp1).toArray)) rfl rfl (Mur.loadAll 129 (.tmp 2) rfl _ Tryd.underlying129 rfl w.heap.size (by kernel_rfl) cp1 64 hcl1 (by kernel_rfl) 129 (0, 0) hb4) ?_
  refine rY 1 rfl rfl (Mur.storeAll 129 (.tmp 2) (.tmp 13) rfl w.heap.size (by kernel_rfl) cp1 64 hcl1 (by kernel_rfl) (by kernel_rfl) 129 ((b8s cp1).toArray) hb4 (by rw [List.size_toArray, Mur.b8s_length, hcl1])) ?_
  rintro W6 ⟨hb5, ch6⟩
  have zz6 := ch6.size
  refine rEnd 2 rfl (nxt (wp_ret ?_))
  have kk2 := Chg.step kk1 ch2 trivial
  have kk3 := Chg.step kk2 ch3 trivial
  have kk4 := Chg.step kk3 ch4 ⟨.inr (by omega), trivial⟩
  have kk5 := Chg.step kk4 ch5 ⟨.inr (by omega), trivial⟩
  have kk6 := Chg.step kk5 ch6 ⟨.inr (by omega), trivial⟩
  refine Wk.ret (.agg (b8s cp1).toArray) rfl (results_cell_row rfl _ _ w.heap.size 129 (b8s cp1).toArray (0, 0) _ (by kernel_rfl) hb5 Tryd.underlying129 rfl (by rw [List.size_toArray, Mur.b8s_length, hcl1]; kernel_rfl)) ?_
  exact ⟨_, Go.Lib.hid (hcp1.out.trans (Mur.key_big (by rw [HB.out.1]; omega) hd1.out)), hcl1, rfl, kk6⟩
 refine rQ 2 6 _ rfl rfl (qboolF (b := decide (((n : Nat) : Int) > (64 : Int))) (decide_eq_false (by first | exact hx1 | omega))) ?_
 refine rEnd 3 rfl (nxt (wp_cond_false (by kernel_rfl) (wp_skip (nxt (wp_seq (reg ?_))))))
 refine rQ 0 10 (.slice (some ⟨w.heap.size, 0, none⟩) 64 64) rfl rfl (Mur.arr_slice 129 5 (.tmp 2) 64 rfl Tryd.underlying129 (by kernel_rfl) w.heap.size (by kernel_rfl)) ?_
 refine rP 1 11 (.slice A n c) ?_
 have kk7 : Chg [] w W1 := Chg.step ((Chg.refl _).more (by simp)) ch1 trivial
 refine rX 2 12 rfl rfl (Mur.copy8 (.tmp 10) (.tmp 11) 22 22 rfl 5 Tryd.underlying22 (by kernel_rfl) w.heap.size 64 64 (by kernel_rfl) A n c (by kernel_rfl) 129 (List.replicate 64 (0 : UInt8)) s (hb1) rfl (Mur.byt_chg HB.out kk7 (fun g off e hl => trivial)) (by omega) HA.out) ?_
 rintro _ W7 ⟨rfl, hb6, ch7⟩
 have hcl2 : (s ++ (List.replicate 64 (0 : UInt8)).drop n).length = 64 := by have h1 := (Mur.byt_chg HB.out kk7 (fun g off e hl => trivial)).1; have h2 : (List.replicate 64 (0 : UInt8)).length = 64 := (by simp); simp only [List.length_append, List.length_drop]; omega
 obtain ⟨cp2, hcp2⟩ : ∃ l, Hid (l = s ++ (List.replicate 64 (0 : UInt8)).drop n) := ⟨_, rfl⟩
 rw [← hcp2.out] at hb6 hcl2
 have zz7 := ch7.size
 refine rEnd 3 rfl (nxt (wp_seq (reg ?_)))
 refine rQ 0 13 (.agg ((b8s cp2).toArray)) rfl rfl (Mur.loadAll 129 (.tmp 2) rfl _ Tryd.underlying129 rfl w.heap.size (by kernel_rfl) cp2 64 hcl2 (by kernel_rfl) 129 (0, 0) hb6) ?_
 refine rY 1 rfl rfl (Mur.storeAll 129 (.tmp 2) (.tmp 13) rfl w.heap.size (by kernel_rfl) cp2 64 hcl2 (by kernel_rfl) (by kernel_rfl) 129 ((b8s cp2).toArray) hb6 (by rw [List.size_toArray, Mur.b8s_length, hcl2])) ?_
 rintro W8 ⟨hb7, ch8⟩
 have zz8 := ch8.size
 refine rEnd 2 rfl (nxt (wp_ret ?_))
 have kk8 := Chg.step kk7 ch7 ⟨.inr (by omega), trivial⟩
 have kk9 := Chg.step kk8 ch8 ⟨.inr (by omega), trivial⟩
 refine Wk.ret (.agg (b8s cp2).toArray) rfl (results_cell_row rfl _ _ w.heap.size 129 (b8s cp2).toArray (0, 0) _ (by kernel_rfl) hb7 Tryd.underlying129 rfl (by rw [List.size_toArray, Mur.b8s_length, hcl2]; kernel_rfl)) ?_
 exact ⟨_, Go.Lib.hid (hcp2.out.trans (Mur.key_small HB.out.1 (by omega))), hcl2, rfl, kk9⟩
theorem with_any (c : UInt8) (k : List UInt8) (hk : k.length = 64) (w : World) : Calls Tryd.prog 77 #[.agg (b8s k).toArray, .int .u8 ((c.toNat : Nat) : Int)] w fun e w' => e = .returned (.agg (b8s (Mur.xorl c k)).toArray) ∧ Chg [] w w' := by
 refine calls_of_wp Tryd.func77 rfl ?_
 refine wp_seq (reg ?_)
 refine rX 0 2 rfl rfl (new_ex (pt w.heap.size 0) ((b8s k).toArray) 129 (by kernel_rfl)) ?_
 rintro _ W1 ⟨rfl, hb1, ch1, sz1⟩
 have zz1 := ch1.size
 refine rX 1 4 rfl rfl (new_ex (pt W1.heap.size 0) Z64 129 (by kernel_rfl)) ?_
 rintro _ W2 ⟨rfl, hb2, ch2, sz2⟩
 have zz2 := ch2.size
 refine rEnd 2 rfl (nxt (wp_seq (wp_seq (reg ?_))))
 refine rP 0 6 (.int .i64 0) ?_
 refine rEnd 1 rfl (nxt (wp_block ?_))
 refine Wk.loop (fun m_ a wr => ∃ (i : Nat), m_ = 64 - i ∧ a = With_F1 a.tmps (.int .u8 ((c.toNat : Nat) : Int)) (pt w.heap.size 0) (pt W1.heap.size 0) (.int .i64 ((i : Nat) : Int)) ∧ i ≤ 64 ∧ wr.heap[w.heap.size]? = some (.cells (b8s (Mur.xorTo c k i)).toArray 129 (0, 0)) ∧ wr.heap[W1.heap.size]? = some (.cells Z64 129 (0, 0)) ∧ Chg [] w wr ∧ W1.heap.size < wr.heap.size) (64 - 0) ?_ ?_
 ·have kk1 : Chg [] w W1 := Chg.step ((Chg.refl _).more (by simp)) ch1 trivial
  have kk2 := Chg.step kk1 ch2 trivial
  refine ⟨0, rfl, by kernel_rfl, by omega, (by rw [Mur.xorTo_zero]; exact (Chg.hp ch2 hb1 trivial)), hb2, kk2, (by omega)⟩
 rintro mm1 aa1 W3 ⟨i, hmm1, hF1, hi, hX, hZ, HB, hz4⟩
 generalize aa1.tmps = bb1 at hF1
 subst hF1
 have hxl : (Mur.xorTo c k i).length = 64 := by rw [Mur.xorTo_length, hk]
 by_cases hlt : i < 64
 ·refine wp_seq (reg ?_)
  refine rQ 0 7 _ rfl rfl (qboolT (b := decide (((i : Nat) : Int) < (64 : Int))) (decide_eq_true (by omega))) ?_
  refine rEnd 1 rfl (nxt (wp_seq (wp_cond_true (by kernel_rfl) (wp_skip (nxt (wp_seq (wp_block (wp_seq (reg ?_)))))))))
  refine rP 0 8 (.int .i64 ((i : Nat) : Int)) ?_
  refine rP 1 5 (.int .i64 ((i : Nat) : Int)) ?_
  refine rEnd 2 rfl (nxt (reg ?_))
  refine rP 0 9 (.int .i64 ((i : Nat) : Int)) ?_
  refine rQ 1 10 (pt w.heap.size (0 + i * 1)) rfl rfl (Wk.index_arr 129 5 (.tmp 2) (.tmp 9) rfl 64 Tryd.underlying129 1 (by kernel_rfl) w.heap.size 0 i .i64 (by kernel_rfl) (by kernel_rfl) (by omega)) ?_
  refine rQ 2 11 _ rfl rfl (ld 5 10 w.heap.size (0 + i * 1) (.int .u8 (((k.getD i 0).toNat : Nat) : Int)) (by rw [← Mur.xorTo_getD c k i (by omega)]; exact (Mur.blk_cell (Mur.xorTo c k i) hX i (by rw [hxl]; omega)))) ?_
  refine rP 3 12 (.int .u8 ((c.toNat : Nat) : Int)) ?_
  refine rQ 4 13 (.int .u8 ((((k.getD i 0) ^^^ c).toNat : Nat) : Int)) rfl rfl (Mur.xor8 5 5 (.tmp 11) (.tmp 12) rfl (k.getD i 0) c (by kernel_rfl) (by kernel_rfl)) ?_
  refine rQ 5 14 (pt w.heap.size (0 + i * 1)) rfl rfl (Wk.index_arr 129 5 (.tmp 2) (.tmp 9) rfl 64 Tryd.underlying129 1 (by kernel_rfl) w.heap.size 0 i .i64 (by kernel_rfl) (by kernel_rfl) (by omega)) ?_
  refine rY 6 rfl rfl (Mur.store8 5 (.tmp 14) (.tmp 13) rfl (by kernel_rfl) w.heap.size i (by kernel_rfl) ((k.getD i 0) ^^^ c) (by kernel_rfl) 129 (Mur.xorTo c k i) hX (by rw [hxl]; omega)) ?_
  rintro W4 ⟨hb3, ch3⟩
  have zz3 := ch3.size
  refine rEnd 7 rfl (inN (nxt (reg ?_)))
  refine rQ 0 15 _ rfl rfl (qint64 (n := ((i : Nat) : Int) + 1) (z := ((i + 1 : Nat) : Int)) (by omega) (by omega) (by omega)) ?_
  refine rP 1 6 (.int .i64 ((i + 1 : Nat) : Int)) ?_
  refine rEnd 2 rfl (nxt ?_)
  have kk3 := Chg.step HB ch3 ⟨.inr (by omega), trivial⟩
  refine ⟨_, ?_, i + 1, rfl, by kernel_rfl, (by omega), (by rw [← Mur.xorTo_set c k i (by omega)]; exact hb3), (Chg.hp ch3 hZ ⟨by omega, trivial⟩), kk3, (by omega)⟩
  omega
 obtain rfl : i = 64 := by omega
 refine wp_seq (reg ?_)
 refine rQ 0 7 _ rfl rfl (qboolF (b := decide (((64 : Nat) : Int) < (64 : Int))) (decide_eq_false (by omega))) ?_
 refine rEnd 1 rfl (nxt (wp_seq (wp_cond_false (by kernel_rfl) (wp_exit (thX (thX (inX (nxt (wp_seq (reg ?_))))))))))
 refine rQ 0 16 (.agg ((b8s (Mur.xorTo c k 64)).toArray)) rfl rfl (Mur.loadAll 129 (.tmp 2) rfl _ Tryd.underlying129 rfl w.heap.size (by kernel_rfl) (Mur.xorTo c k 64) 64 hxl (by kernel_rfl) 129 (0, 0) hX) ?_
 refine rY 1 rfl rfl (Mur.storeAll 129 (.tmp 4) (.tmp 16) rfl W1.heap.size (by kernel_rfl) (Mur.xorTo c k 64) 64 hxl (by kernel_rfl) (by kernel_rfl) 129 Z64 hZ rfl) ?_
 rintro W5 ⟨hb4, ch4⟩
 have zz4 := ch4.size
 refine rEnd 2 rfl (nxt (wp_ret ?_))
 have kk4 := Chg.step HB ch4 ⟨.inr (by omega), trivial⟩
 refine Wk.ret (.agg (b8s (Mur.xorTo c k 64)).toArray) rfl (results_cell_row rfl _ _ W1.heap.size 129 (b8s (Mur.xorTo c k 64)).toArray (0, 0) _ (by kernel_rfl) hb4 Tryd.underlying129 rfl (by rw [List.size_toArray, Mur.b8s_length, hxl]; kernel_rfl)) ?_
 exact ⟨by rw [Mur.xorTo_all c k hk], kk4⟩
end Go.Proofs.YtgbadghjnpbiaaaDoor
