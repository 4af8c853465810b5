/- Rows of bytes stored, copied, cut, xored; slices of one's own that bytes are appended to; slices of slices. No program in sight. -/
import Derived.Test.YtddabjlhidokaaaWkS
import Derived.Laws.CopyRow
namespace Mur
open Go Go.RowKit Wk
theorem b8s_set (l : List UInt8) (i : Nat) (x : UInt8) : (b8s l).toArray.setIfInBounds i (.int .u8 (x.toNat : Int)) = (b8s (l.set i x)).toArray := by
  rw [List.setIfInBounds_toArray]
  congr 1
  simp [b8s, List.map_set]
section
variable {P : Program} {w : World} {a : Act} {o : Oper}
theorem blk_cell {g : Nat} {t : TypeId} {fr : Nat × Nat} (l : List UInt8) (h : w.heap[g]? = some (.cells (b8s l).toArray t fr)) (j : Nat) (hj : j < l.length) : w.cell? ⟨g, 0 + j * 1, none⟩ = some (.int .u8 (((l.getD j 0).toNat : Nat) : Int)) := by
  rw [Nat.zero_add, Nat.mul_one]
  exact cell_b8s h hj
theorem byt_cell {g off n : Nat} {l : List UInt8} (h : Byt w (some ⟨g, off, none⟩) n l) (j : Nat) (hj : j < n) : w.cell? ⟨g, off + j * 1, none⟩ = some (.int .u8 (((l.getD j 0).toNat : Nat) : Int)) := by
  obtain ⟨g', off', e, hc⟩ := h.2 (by omega)
  injection e with e
  injection e with e1 e2
  subst e1 e2
  rw [Nat.mul_one]
  exact hc j hj
theorem byt_blk {g n : Nat} {t : TypeId} {fr : Nat × Nat} (l : List UInt8) (hl : l.length = n) (h : w.heap[g]? = some (.cells (b8s l).toArray t fr)) : Byt w (some ⟨g, 0, none⟩) n l := hl ▸ byt_row l h
/-- A whole row stored. -/
theorem storeAll (ty : TypeId) (x y : Operand) (ho : o.op = .store ty x y) (g : Nat) (hx : a.eval x = .pointer (some ⟨g, 0, none⟩)) (l : List UInt8) (n : Nat) (hl : l.length = n) (hy : a.eval y = .agg (b8s l).toArray) (hi : (P.info? ty).map (·.size) = some n)
    (t : TypeId) (cs : Array Value) (hg : w.heap[g]? = some (.cells cs t (0, 0))) (hn : cs.size = n) :
    ∃ w', (execOp a.eval o).run P w = .ok .skip w' ∧ w'.heap[g]? = some (.cells (b8s l).toArray t (0, 0)) ∧ Chg [g] w w' := by
  obtain ⟨w', h1, h2, h3⟩ := storeR (P := P) ty x y ho g 0 hx (b8s l) hy (by rw [hi, b8s_length, hl]) (b8s_one l) t cs.toList (by simpa using hg) (by rw [b8s_length, hl, Array.length_toList, hn]; omega)
  refine ⟨w', h1, ?_, h3⟩
  rw [h2]
  congr 2
  have hdrop : cs.toList.drop (0 + (b8s l).length) = [] := List.drop_of_length_le (by rw [b8s_length, hl, Array.length_toList, hn]; omega)
  unfold splice
  rw [hdrop]
  simp
/-- A whole row loaded. -/
theorem loadAll (ty : TypeId) (x : Operand) (ho : o.op = .load ty x) (d : TypeDesc) (hu : P.underlying ty = some d) (hd : d.isRow = true) (g : Nat) (hx : a.eval x = .pointer (some ⟨g, 0, none⟩)) (l : List UInt8) (n : Nat) (hl : l.length = n)
    (hi : (P.info? ty).map (·.size) = some n) (t : TypeId) (fr : Nat × Nat) (hg : w.heap[g]? = some (.cells (b8s l).toArray t fr)) : (execOp a.eval o).run P w = .ok (.value (.agg (b8s l).toArray)) w :=
  loadR ty x ho d hu hd g 0 hx (b8s l) (by rw [hi, b8s_length, hl]) (range_row hg)
/-- An array as a slice. -/
theorem arr_slice (t e : TypeId) (x : Operand) (n : Nat) (ho : o.op = .slice t x none none none) (ht : P.underlying t = some (.array n e)) (hsz : (P.info? e).map (·.size) = some 1) (g : Nat) (hx : a.eval x = .pointer (some ⟨g, 0, none⟩)) :
    (execOp a.eval o).run P w = .ok (.value (.slice (some ⟨g, 0, none⟩) n n)) w := by
  obtain ⟨i, hi, hs⟩ := Option.map_eq_some_iff.1 hsz
  unfold execOp
  simp only [ho, hx, Option.map_none]
  have e0 : (⟨g, 0, none⟩ : Addr).add 0 = ⟨g, 0, none⟩ := Addr.add_mid g 0 0
  simp [Instr.sliceAt, Instr.slice, Instr.sureAddr, run_underlying ht, Instr.sliceBounds, Go.sizeOf, typeInfo, hi, e0]
theorem bits_xor_u8 (a b : UInt8) : bits .xor .u8 ((a.toNat : Nat) : Int) ((b.toNat : Nat) : Int) = (((a ^^^ b).toNat : Nat) : Int) := by
  show IntKind.u8.wrap ((BitVec.ofInt 8 ((a.toNat : Nat) : Int) ^^^ BitVec.ofInt 8 ((b.toNat : Nat) : Int)).toNat : Int) = _
  rw [BitVec.ofInt_natCast, BitVec.ofInt_natCast, UInt8.toNat, BitVec.ofNat_toNat, BitVec.setWidth_eq, UInt8.toNat, BitVec.ofNat_toNat, BitVec.setWidth_eq]
  show ((((a ^^^ b).toNat : Nat) : Int)) % 256 = _
  have := (a ^^^ b).toNat_lt
  omega
theorem bits_or_u8 (a b : UInt8) : bits .or .u8 ((a.toNat : Nat) : Int) ((b.toNat : Nat) : Int) = (((a ||| b).toNat : Nat) : Int) := by
  show IntKind.u8.wrap ((BitVec.ofInt 8 ((a.toNat : Nat) : Int) ||| BitVec.ofInt 8 ((b.toNat : Nat) : Int)).toNat : Int) = _
  rw [BitVec.ofInt_natCast, BitVec.ofInt_natCast, UInt8.toNat, BitVec.ofNat_toNat, BitVec.setWidth_eq, UInt8.toNat, BitVec.ofNat_toNat, BitVec.setWidth_eq]
  show ((((a ||| b).toNat : Nat) : Int)) % 256 = _
  have := (a ||| b).toNat_lt
  omega
theorem xor8 (t ty : TypeId) (x y : Operand) (ho : o.op = .binOp .xor t x y ty) (b c : UInt8) (hx : a.eval x = .int .u8 ((b.toNat : Nat) : Int)) (hy : a.eval y = .int .u8 ((c.toNat : Nat) : Int)) : (execOp a.eval o).run P w = .ok (.value (.int .u8 (((b ^^^ c).toNat : Nat) : Int))) w := by
  unfold execOp
  simp only [ho, hx, hy]
  have key : (binOp .xor t (.int .u8 ((b.toNat : Nat) : Int)) (.int .u8 ((c.toNat : Nat) : Int))).run P w = .ok (.int .u8 (bits .xor .u8 ((b.toNat : Nat) : Int) ((c.toNat : Nat) : Int))) w := rfl
  have hg : (eqGuard .xor t x y (.int .u8 ((b.toNat : Nat) : Int)) (.int .u8 ((c.toNat : Nat) : Int))).run P w = .ok () w := rfl
  rw [bits_xor_u8] at key
  simp only [Sem.run_bind, Sem.run_pure, hg, Result.andThen_ok, key]
theorem or8 (t ty : TypeId) (x y : Operand) (ho : o.op = .binOp .or t x y ty) (b c : UInt8) (hx : a.eval x = .int .u8 ((b.toNat : Nat) : Int)) (hy : a.eval y = .int .u8 ((c.toNat : Nat) : Int)) : (execOp a.eval o).run P w = .ok (.value (.int .u8 (((b ||| c).toNat : Nat) : Int))) w := by
  unfold execOp
  simp only [ho, hx, hy]
  have key : (binOp .or t (.int .u8 ((b.toNat : Nat) : Int)) (.int .u8 ((c.toNat : Nat) : Int))).run P w = .ok (.int .u8 (bits .or .u8 ((b.toNat : Nat) : Int) ((c.toNat : Nat) : Int))) w := rfl
  have hg : (eqGuard .or t x y (.int .u8 ((b.toNat : Nat) : Int)) (.int .u8 ((c.toNat : Nat) : Int))).run P w = .ok () w := rfl
  rw [bits_or_u8] at key
  simp only [Sem.run_bind, Sem.run_pure, hg, Result.andThen_ok, key]
/-- A byte stored into a row of one's own. -/
theorem store8 (ty : TypeId) (x y : Operand) (ho : o.op = .store ty x y) (hi : (P.info? ty).map (·.size) = some 1) (g i : Nat) (hx : a.eval x = .pointer (some ⟨g, 0 + i * 1, none⟩)) (b : UInt8) (hy : a.eval y = .int .u8 ((b.toNat : Nat) : Int))
    (t : TypeId) (l : List UInt8) (hg : w.heap[g]? = some (.cells (b8s l).toArray t (0, 0))) (hlt : i < l.length) :
    ∃ w', (execOp a.eval o).run P w = .ok .skip w' ∧ w'.heap[g]? = some (.cells (b8s (l.set i b)).toArray t (0, 0)) ∧ Chg [g] w w' := by
  rw [Nat.zero_add, Nat.mul_one] at hx
  obtain ⟨w', h1, h2, h3⟩ := store1 (P := P) ty x y ho hi g i hx _ hy rfl t _ hg (by simpa [b8s_length] using hlt)
  exact ⟨w', h1, by rw [h2, b8s_set], h3⟩
/-- Bytes copied to the head of a row of one's own. -/
theorem copy8 (d s : Operand) (dT sT : TypeId) (ho : o.op = .call { callee := .builtin .copy, args := #[d, s], argTypes := #[dT, sT] }) (e : TypeId) (hu : P.underlying dT = some (.slice e)) (hsz : (P.info? e).map (·.size) = some 1)
    (g D c : Nat) (hd : a.eval d = .slice (some ⟨g, 0, none⟩) D c) (A : Option Addr) (n c2 : Nat) (hs : a.eval s = .slice A n c2) (t : TypeId) (l r : List UInt8) (hg : w.heap[g]? = some (.cells (b8s l).toArray t (0, 0))) (hD : l.length = D) (hb : Byt w A n r) (hn : n ≤ D) (hA : A = none → c2 = 0) :
    ∃ v w', (execOp a.eval o).run P w = .ok (.value v) w' ∧ v = .int .i64 ((n : Nat) : Int) ∧ w'.heap[g]? = some (.cells (b8s (r ++ l.drop n)).toArray t (0, 0)) ∧ Chg [g] w w' := by
  have hrn := hb.1
  rcases A with _ | ad
  · have h0 : r = [] := by
      rcases r with _ | ⟨y, r⟩
      · rfl
      · obtain ⟨g, off, h, _⟩ := hb.2 (by have := hb.1; simp at this; omega)
        cases h
    subst h0
    obtain rfl : n = 0 := by simpa using hrn.symm
    obtain rfl := hA rfl
    refine ⟨_, w, ?_, rfl, by simpa using hg, (Chg.refl w).more (by simp)⟩
    have := run_copy_nil (P := P) w dT sT o.type e ⟨g, 0, none⟩ D c hu (by rw [hsz]; rfl)
    unfold execOp
    simp only [ho, resolve, invoke, builtin, Sem.run_bind, Sem.run_pure, Result.andThen_ok, List.map_toArray, List.map_cons, List.map_nil, hs, hd, this, goInt]
    rfl
  · have hsrc : ∀ j v, (b8s r)[j]? = some v → w.cell? (ad.add j) = some v := by
      intro j v hv
      have hj : j < r.length := by
        have := (List.getElem?_eq_some_iff.1 hv).1
        simpa [b8s_length] using this
      obtain ⟨g', off, e', hc⟩ := hb.2 (by omega)
      injection e' with e'
      subst e'
      rw [Addr.add_mid]
      rw [b8s_get r j hj] at hv
      injection hv with hv
      subst hv
      exact hc j (by omega)
    have hrun := run_copy_row (P := P) w dT sT o.type e g 0 D c ad n c2 (b8s l).toArray t (b8s r) hu hsz hg (by rw [b8s_length, hrn]; exact (Nat.min_eq_left hn).symm) hsrc (by simp [b8s_length]; omega) (b8s_one r)
    have hb8 : (b8s l).take 0 ++ b8s r ++ (b8s l).drop (0 + (b8s r).length) = b8s (r ++ l.drop n) := by
      rw [b8s_append, b8s_length, hrn]
      simp [b8s, List.map_drop]
    refine ⟨.int .i64 ((n : Nat) : Int), w.setRow g (b8s (r ++ l.drop n)).toArray, ?_, rfl, ?_, ?_⟩
    · unfold execOp
      simp only [ho, resolve, invoke, builtin, Sem.run_bind, Sem.run_pure, Result.andThen_ok, List.map_toArray, List.map_cons, List.map_nil, hs, hd, hrun, goInt, b8s_length, hrn]
      rw [b8s_length, hrn] at hb8
      rw [hb8]
    · exact setRow_heap w g _ _ t _ hg
    · refine ⟨rfl, rfl, rfl, by simp [World.setRow], fun k hk ho => ?_⟩
      exact setRow_other _ _ _ _ (fun h => ho.1 h)
/-- append of bytes to a slice of one's own. -/
structure Own8 (w : World) (base e : Nat) (A : Option Addr) (n c : Nat) (l : List UInt8) : Prop where
  own : w.ownsRow base e 1 (.slice A n c) n (b8s l)
  nc : n ≤ c
  cm : c ≤ maxLen
  nil : A = none → c = 0
  byt : Byt w A n l
  at_ : ∀ g off, A = some ⟨g, off, none⟩ → base ≤ g ∧ g < w.heap.size
  lt : ∀ k, (Value.slice A n c).ownBlock = some k → base ≤ k ∧ k < w.heap.size
theorem own8 {base e n : Nat} {A : Option Addr} {c : Nat} {l : List UInt8} (h : w.ownsRow base e 1 (.slice A n c) n (b8s l)) : Own8 w base e A n c l := by
  obtain ⟨A1, c1, e1, h1, h2, h3⟩ := own_byt h
  injection e1 with e1 _ e2
  subst e1 e2
  obtain ⟨A2, c2, e3, _, _, h4, _, h5⟩ := own_sl h
  injection e3 with e3 _ e4
  subst e3 e4
  exact ⟨h, h1, h2, h4, h3, h5, World.ownsRow.lt h⟩
theorem append8 (s x : Operand) (t e : TypeId) (ho : o.op = .call { callee := .builtin .append, args := #[s, x], argTypes := #[t, t] }) (ht : P.underlying t = some (.slice e)) (hinfo : (P.info? e).map (fun i => (i.zero, i.size, i.bytes)) = some (some (.int .u8 0), 1, 1))
    (base : Nat) (A0 : Option Addr) (n c0 : Nat) (xs : List UInt8) (A : Option Addr) (m c : Nat) (ys : List UInt8) (hs : a.eval s = .slice A0 n c0) (hx : a.eval x = .slice A m c) (HO : w.ownsRow base e 1 (.slice A0 n c0) n (b8s xs)) (HR : Byt w A m ys) (hA : A = none → c = 0)
    (hbase : base ≤ w.heap.size) (hl : n + m ≤ 140737488355328) (k : Nat) (hk : n + m = k) (zs : List UInt8) (hz : xs ++ ys = zs) :
    ∃ v1 w1, (execOp a.eval o).run P w = .ok (.value v1) w1 ∧ ∃ A1 c1, v1 = .slice A1 k c1 ∧ Own8 w1 base e A1 k c1 zs ∧ Chg (blk (.slice A0 n c0)) w w1 ∧ (∀ q, (Value.slice A1 k c1).ownBlock = some q → (Value.slice A0 n c0).ownBlock = some q ∨ q = w.heap.size) := by
  subst hk hz
  obtain ⟨v1, w1, h1, h2, h3, h4⟩ := append_run (P := P) s x t e ho ht (.int .u8 0) 1 1 hinfo rfl (by omega) base (.slice A0 n c0) n (b8s xs) A m c (b8s ys) hs hx HO (byt_sl HR) hA (b8s_one ys) hbase (by unfold maxLen; omega) (by omega)
  rw [← b8s_append] at h2
  obtain ⟨A1, c1, rfl, _⟩ := own_byt h2
  refine ⟨_, w1, h1, A1, c1, rfl, own8 h2, h3, fun q hq => ?_⟩
  rcases h4 with h4 | h4
  · exact .inl (h4 ▸ hq)
  · rw [h4] at hq
    exact .inr (Option.some.inj hq).symm
theorem Own8.chg {w' : World} {base e n c : Nat} {A : Option Addr} {l : List UInt8} {S : List Nat} (h : Own8 w base e A n c l) (ch : Chg S w w') (ho : ∀ g, base ≤ g → g < w.heap.size → Off g S) : Own8 w' base e A n c l :=
  own8 (own_chg h.own ch fun g _ h1 h2 => ho g h1 h2)
theorem own8_empty {base e g : Nat} (h : w.heap[g]? = some (.cells #[] e (0, 0))) (hb : base ≤ g) : Own8 w base e (some ⟨g, 0, none⟩) 0 0 [] := own8 (own_empty h hb)
theorem own8_nil (w : World) (base e : Nat) : Own8 w base e none 0 0 [] := own8 (own_nil w base e)
end
/-- A slice of bytes. -/
structure Seg where
  A : Option Addr
  n : Nat
  c : Nat
  l : List UInt8
def Seg.v (s : Seg) : Value := .slice s.A s.n s.c
structure SegOk (w : World) (s : Seg) : Prop where
  nc : s.n ≤ s.c
  nil : s.A = none → s.c = 0
  byt : Byt w s.A s.n s.l
  cm : s.c ≤ maxLen
/-- A slice of slices of bytes. -/
structure Segs (w : World) (A : Option Addr) (n : Nat) (L : List Seg) : Prop where
  len : L.length = n
  ok : ∀ s ∈ L, SegOk w s
  cells : 0 < n → ∃ g off, A = some ⟨g, off, none⟩ ∧ ∀ i s, L[i]? = some s → w.cell? ⟨g, off + i, none⟩ = some s.v
theorem SegOk.chg {w w' : World} {s : Seg} (h : SegOk w s) (c : Chg [] w w') : SegOk w' s := ⟨h.1, h.2, byt_chg h.3 c fun _ _ _ _ => trivial, h.4⟩
theorem Segs.chg {w w' : World} {A : Option Addr} {n : Nat} {L : List Seg} (h : Segs w A n L) (c : Chg [] w w') : Segs w' A n L :=
  ⟨h.1, fun s hs => (h.2 s hs).chg c, fun hn => by
    obtain ⟨g, off, e, hc⟩ := h.3 hn
    exact ⟨g, off, e, fun i s hi => c.cell (hc i s hi) trivial⟩⟩
/-- All their bytes. -/
def flat (L : List Seg) : List UInt8 := L.flatMap (·.l)
theorem flat_take {L : List Seg} {i : Nat} {s : Seg} (h : L[i]? = some s) : flat (L.take (i + 1)) = flat (L.take i) ++ s.l := by
  have hi : i < L.length := (List.getElem?_eq_some_iff.1 h).1
  have he : L[i] = s := (List.getElem?_eq_some_iff.1 h).2
  rw [List.take_succ_eq_append_getElem hi, he]
  simp [flat]
theorem flat_take_le {L : List Seg} (i : Nat) : (flat (L.take i)).length ≤ (flat L).length := by
  have : flat L = flat (L.take i) ++ flat (L.drop i) := by rw [flat, flat, flat, ← List.flatMap_append, List.take_append_drop]
  rw [this, List.length_append]
  omega
theorem flat_all {L : List Seg} {n : Nat} (h : L.length = n) : flat (L.take n) = flat L := by rw [List.take_of_length_le (by omega)]
theorem Segs.at {w : World} {A : Option Addr} {n : Nat} {L : List Seg} (h : Segs w A n L) {k : Nat} (hk : k < n) : ∃ g off As ns cs ls, A = some ⟨g, off, none⟩ ∧ g < w.heap.size ∧ w.cell? ⟨g, off + k * 1, none⟩ = some (.slice As ns cs) ∧ Byt w As ns ls ∧ ns ≤ cs ∧ cs ≤ maxLen ∧ (As = none → cs = 0) ∧
    flat (L.take (k + 1)) = flat (L.take k) ++ ls ∧ (flat (L.take k)).length + ns ≤ (flat L).length := by
  obtain ⟨g, off, rfl, hc⟩ := h.3 (by omega)
  obtain ⟨x, hx⟩ : ∃ x, L[k]? = some x := ⟨_, List.getElem?_eq_getElem (by have := h.1; omega)⟩
  have hok := h.2 x (List.mem_of_getElem? hx)
  have q := hc k x hx
  have hf := flat_take hx
  have hle := flat_take_le (L := L) (k + 1)
  have hl := hok.byt.1
  rw [hf, List.length_append, hl] at hle
  exact ⟨g, off, x.A, x.n, x.c, x.l, rfl, World.block_lt_of_cell? w ⟨g, off + k, none⟩ q, by rw [Nat.mul_one]; exact q, hok.byt, hok.nc, hok.cm, hok.nil, hf, hle⟩
theorem flat_one (s : Seg) : flat [s] = s.l := by
  show s.l ++ [] = s.l
  rw [List.append_nil]
theorem segs_one {w : World} {g : Nat} {t : TypeId} {fr : Nat × Nat} {A : Option Addr} {n c : Nat} {l : List UInt8} (h : w.heap[g]? = some (.cells #[.slice A n c] t fr)) (h1 : n ≤ c) (h2 : A = none → c = 0) (h3 : Byt w A n l) (h4 : c ≤ maxLen) : Segs w (some ⟨g, 0, none⟩) 1 [⟨A, n, c, l⟩] :=
  ⟨rfl, fun s hs => by
    obtain rfl := List.mem_singleton.1 hs
    exact ⟨h1, h2, h3, h4⟩, fun _ => ⟨g, 0, rfl, fun i s hi => by
      rw [cell_of_row _ _ _ _ _ _ h]
      rcases i with _ | i
      · obtain rfl := Option.some.inj hi
        rfl
      · cases hi⟩⟩
end Mur
