/- What the row rests on, part 7. -/
import Derived.Laws.MakeOwn
import Derived.Test.YtgbadghjnpbiaaaGreatDoorRG6
import Derived.Test.YtgbadghjnpbiaaaGreatDoorRG4
import Derived.Test.YtgbadghjnpbiaaaGreatDoorRG5
namespace Mur
open Go Go.RowKit Wk
def flatR (R : List (List Value)) : List Value := R.flatten
def Sized (sz : Nat) (R : List (List Value)) : Prop := ∀ r, r ∈ R → r.length = sz ∧ ∀ v, v ∈ r → v.oneCell' = true
theorem flatR_len {sz : Nat} : ∀ {R : List (List Value)}, Sized sz R → (flatR R).length = R.length * sz
 | [], _ => by simp [flatR]
 | r :: R, h => by
  have h1 := (h r (by simp)).1
  have h2 := flatR_len (R := R) (sz := sz) fun q hq => h q (List.mem_cons_of_mem _ hq)
  show (r ++ flatR R).length = _
  rw [List.length_append, h1, h2, List.length_cons, Nat.add_mul]
  omega
theorem flatR_one {sz : Nat} {R : List (List Value)} (h : Sized sz R) : ∀ v, v ∈ flatR R → v.oneCell' = true := fun v hv => by
 obtain ⟨r, hr, hv⟩ := List.mem_flatten.1 hv
 exact (h r hr).2 v hv
theorem flatR_drop {sz : Nat} : ∀ {R : List (List Value)} (_ : Sized sz R) (i : Nat), flatR (R.drop i) = (flatR R).drop (i * sz)
 | _, _, 0 => by simp
 | [], _, i + 1 => by simp [flatR]
 | r :: R, h, i + 1 => by
  have h1 := (h r (by simp)).1
  rw [List.drop_succ_cons, flatR_drop (fun q hq => h q (List.mem_cons_of_mem _ hq)) i]
  show _ = (r ++ flatR R).drop _
  rw [Nat.add_mul, Nat.one_mul, Nat.add_comm, ← List.drop_drop, List.drop_left' h1]
theorem flatR_append (R T : List (List Value)) : flatR (R ++ T) = flatR R ++ flatR T := by simp [flatR]
structure SlR (w : World) (sz : Nat) (A : Option Addr) (n : Nat) (R : List (List Value)) : Prop where
 len : R.length = n
 szd : Sized sz R
 sl : Sl w A n sz (flatR R)
structure OwnR (w : World) (base e sz : Nat) (A : Option Addr) (n c : Nat) (R : List (List Value)) : Prop where
 own : w.ownsRow base e sz (.slice A n c) n (flatR R)
 szd : Sized sz R
 len : R.length = n
 nc : n ≤ c
 cm : c ≤ maxLen
 nil : A = none → c = 0
 sl : Sl w A n sz (flatR R)
 at_ : ∀ g off, A = some ⟨g, off, none⟩ → base ≤ g ∧ g < w.heap.size
 lt : ∀ k, (Value.slice A n c).ownBlock = some k → base ≤ k ∧ k < w.heap.size
section
variable {w w' : World} {base e sz n c : Nat} {A : Option Addr} {R T : List (List Value)}
theorem ownR (h : w.ownsRow base e sz (.slice A n c) n (flatR R)) (hs : Sized sz R) (hp : 0 < sz) : OwnR w base e sz A n c R := by
 obtain ⟨A2, c2, e3, h1, h2, h4, h5, h6⟩ := own_sl h
 injection e3 with e3 _ e4
 subst e3 e4
 have hl : R.length = n := by
  have := h.1
  rw [flatR_len hs] at this
  exact Nat.eq_of_mul_eq_mul_right hp this
 exact ⟨h, hs, hl, h1, h2, h4, h5, h6, World.ownsRow.lt h⟩
theorem OwnR.slR (h : OwnR w base e sz A n c R) : SlR w sz A n R := ⟨h.len, h.szd, h.sl⟩
theorem ownR_nil (w : World) (base e : Nat) (hp : 0 < sz) : OwnR w base e sz none 0 0 [] := ownR ⟨by simp [flatR], .inl ⟨rfl, rfl⟩⟩ (fun r hr => by cases hr) hp
theorem ownR_empty {g : Nat} (h : w.heap[g]? = some (.cells #[] e (0, 0))) (hb : base ≤ g) (hp : 0 < sz) : OwnR w base e sz (some ⟨g, 0, none⟩) 0 0 [] :=
 ownR ⟨by simp [flatR], .inr ⟨g, 0, #[], rfl, hb, h, Nat.le_refl _, by unfold maxLen; omega, by simp, by simp [flatR]⟩⟩ (fun r hr => by cases hr) hp
theorem OwnR.chg {S : List Nat} (h : OwnR w base e sz A n c R) (hp : 0 < sz) (ch : Chg S w w') (ho : ∀ g, (Value.slice A n c).ownBlock = some g → base ≤ g → g < w.heap.size → Off g S) : OwnR w' base e sz A n c R := ownR (own_chg h.own ch ho) h.szd hp
theorem SlR.chg {S : List Nat} (h : SlR w sz A n R) (ch : Chg S w w') (ho : ∀ g off, A = some ⟨g, off, none⟩ → g < w.heap.size → Off g S) : SlR w' sz A n R := ⟨h.len, h.szd, h.sl.chg ch ho⟩
theorem SlR.row (h : SlR w sz A n R) {i : Nat} {r : List Value} (hr : R[i]? = some r) (hp : 0 < sz) : ∃ g off, A = some ⟨g, off, none⟩ ∧ w.rangeAt g (off + i * sz) r := by
 obtain ⟨hi, rfl⟩ := List.getElem?_eq_some_iff.1 hr
 have h1 := (h.szd R[i] (List.getElem_mem _)).1
 obtain ⟨g, off, e, hg⟩ := h.sl.2 (fun e => by
  have := congrArg List.length e
  rw [flatR_len h.szd, List.length_nil] at this
  have h3 : 0 < R.length * sz := Nat.mul_pos (by omega) hp
  omega)
 refine ⟨g, off, e, fun j v hv => ?_⟩
 have hj := (List.getElem?_eq_some_iff.1 hv).1
 have key : (flatR R)[i * sz + j]? = some v := by
  rw [← List.getElem?_drop, ← flatR_drop h.szd, List.drop_eq_getElem_cons hi]
  show (R[i] ++ flatR (R.drop (i + 1)))[j]? = _
  rw [List.getElem?_append_left hj]
  exact hv
 have := hg (i * sz + j) v key
 rwa [← Nat.add_assoc] at this
theorem slR_box {g : Nat} {t : TypeId} {fr : Nat × Nat} {r : List Value} (hr : r.length = sz) (h1 : ∀ v, v ∈ r → v.oneCell' = true) (h : w.heap[g]? = some (.cells r.toArray t fr)) : SlR w sz (some ⟨g, 0, none⟩) 1 [r] :=
 ⟨rfl, fun q hq => by rw [List.mem_singleton.1 hq]; exact ⟨hr, h1⟩, by simp [flatR, hr], fun _ => ⟨g, 0, rfl, by simpa [flatR] using range_row h⟩⟩
end
section
variable {P : Program} {w : World} {a : Act} {o : Oper}
theorem appendR (s x : Operand) (t e : TypeId) (ho : o.op = .call { callee := .builtin .append, args := #[s, x], argTypes := #[t, t] }) (ht : P.underlying t = some (.slice e)) (z : Value) (sz bytes : Nat) (hinfo : (P.info? e).map (fun i => (i.zero, i.size, i.bytes)) = some (some z, sz, bytes)) (hz : z.cells.size = sz) (hp : 0 < sz) (hby : bytes ≤ 1000)
  (base : Nat) (A0 : Option Addr) (n c0 : Nat) (xs : List (List Value)) (A : Option Addr) (m c : Nat) (ys : List (List Value)) (hs : a.eval s = .slice A0 n c0) (hx : a.eval x = .slice A m c) (HO : OwnR w base e sz A0 n c0 xs) (HR : SlR w sz A m ys) (hA : A = none → c = 0)
  (hbase : base ≤ w.heap.size) (hl : n + m ≤ 1000000) (k : Nat) (hk : n + m = k) :
  ∃ v1 w1, (execOp a.eval o).run P w = .ok (.value v1) w1 ∧ ∃ A1 c1, v1 = .slice A1 k c1 ∧ OwnR w1 base e sz A1 k c1 (xs ++ ys) ∧ Chg (blk (.slice A0 n c0)) w w1 ∧ (∀ q, (Value.slice A1 k c1).ownBlock = some q → (Value.slice A0 n c0).ownBlock = some q ∨ q = w.heap.size) := by
 subst hk
 have hb : (n + m) * bytes ≤ 1000000 * 1000 := Nat.mul_le_mul hl hby
 obtain ⟨v1, w1, h1, h2, h3, h4⟩ := append_run (P := P) s x t e ho ht z sz bytes hinfo hz hp base (.slice A0 n c0) n (flatR xs) A m c (flatR ys) hs hx HO.own HR.sl hA (flatR_one HR.szd) hbase (by unfold maxLen; omega) (by omega)
 rw [← flatR_append] at h2
 obtain ⟨A1, c1, rfl, _⟩ := own_sl h2
 refine ⟨_, w1, h1, A1, c1, rfl, ownR h2 (fun r hr => (List.mem_append.1 hr).elim (HO.szd r) (HR.szd r)) hp, h3, fun q hq => ?_⟩
 rcases h4 with h4 | h4
 ·exact .inl (h4 ▸ hq)
 ·rw [h4] at hq
  exact .inr (Option.some.inj hq).symm
theorem buildR1 (t e : TypeId) (x : Operand) (ho : o.op = .buildSlice t 1 #[(0, x)]) (ht : P.underlying t = some (.slice e)) (z : List Value) (sz bytes : Nat) (hinfo : (P.info? e).map (fun i => (i.zero, i.size, i.bytes)) = some (some (.agg z.toArray), sz, bytes)) (hzl : z.length = sz) (hp : 0 < sz) (h1000 : sz ≤ 1000)
  (r : List Value) (hr : r.length = sz) (hx : a.eval x = .agg r.toArray) :
  ∃ v w1, (execOp a.eval o).run P w = .ok (.value v) w1 ∧ v = .slice (some ⟨w.heap.size, 0, none⟩) 1 1 ∧ w1.heap[w.heap.size]? = some (.cells r.toArray e (0, 0)) ∧ Chg [] w w1 ∧ w.heap.size < w1.heap.size := by
 obtain ⟨i0, hi, hzz⟩ := Option.map_eq_some_iff.1 hinfo
 simp only [Prod.mk.injEq] at hzz
 obtain ⟨hz0, hz1, hz2⟩ := hzz
 have hfill : ∀ Z : Array Value, Z.size = sz → Instr.fill (fun i => some (i * sz, sz)) Z [(0, .agg r.toArray)] = some r.toArray := by
  intro Z hZ
  have := fill_part (place := fun i => some (i * sz, sz)) (L := Z.toList) (vs := r) (v := .agg r.toArray) (i := 0) (off := 0) (size := sz) (rest := []) (R := some r.toArray) (by simp) rfl hr (by rw [Array.length_toList, hZ]; omega) (by
   have e : splice Z.toList 0 r = r := by
    unfold splice
    rw [hr, List.drop_of_length_le (by rw [Array.length_toList, hZ]; omega)]
    simp
   rw [e]
   rfl)
  simpa using this
 have hrun : (Instr.buildSlice t 1 [(0, Value.agg r.toArray)].toArray).run P w = .ok (.slice (some ⟨w.heap.size, 0, none⟩) 1 1) (w.alloc (.cells r.toArray e)) := by
  have hs : (Value.agg z.toArray).cells.size = sz := by simpa [Value.cells] using hzl
  have hf := hfill ((Array.range (1 * sz)).map ((Value.agg z.toArray).cells[· % sz]!)) (by rw [Array.size_map, Array.size_range, Nat.one_mul])
  unfold Instr.buildSlice
  simp [run_underlying ht, Go.sizeOf, typeInfo, zeroValue, hi, hz0, hz1, hs]
  simp at hf
  rw [hf, if_neg (by omega), if_neg (by omega)]
  rfl
 refine ⟨_, _, ?_, rfl, heap_alloc_new w _, Chg.alloc w _, by simp⟩
 unfold execOp
 simp only [ho, List.map_toArray, List.map_cons, List.map_nil, hx]
 simp only [Sem.run_bind, hrun, Result.andThen_ok, Sem.run_pure]
end
end Mur
namespace Mur
open Go Go.RowKit Wk
section
variable {P : Program} {w : World} {a : Act} {o : Oper}
theorem ofNat_mod (u : Nat) : ((UInt8.ofNat u).toNat : Nat) = u % 256 := by simp
theorem ofNat_mod2 (u : Nat) : UInt8.ofNat (u % 256) = UInt8.ofNat u := UInt8.toNat_inj.1 (by simp)
theorem conv_u8o (s t : TypeId) (x : Operand) (ho : o.op = .convert s t x) (hs : (P.underlying s).isSome = true) (ht : P.underlying t = some (.int .u8)) (k : IntKind) (u : Nat) (hx : a.eval x = .int k ((u : Nat) : Int)) : (execOp a.eval o).run P w = .ok (.value (.int .u8 (((UInt8.ofNat u).toNat : Nat) : Int))) w := by
 rw [ofNat_mod]
 exact conv_u8 s t x ho hs ht k u hx
theorem add_u64 (t ty : TypeId) (x y : Operand) (ho : o.op = .binOp .add t x y ty) (i n z : Nat) (hx : a.eval x = .int .u64 ((i : Nat) : Int)) (hy : a.eval y = .int .u64 ((n : Nat) : Int)) (hz : i + n = z) (hl : z < 18446744073709551616) :
  (execOp a.eval o).run P w = .ok (.value (.int .u64 ((z : Nat) : Int))) w := by
 subst hz
 have hm : IntKind.u64.wrap (((i : Nat) : Int) + ((n : Nat) : Int)) = (((i + n : Nat)) : Int) := by
  show (((i : Nat) : Int) + ((n : Nat) : Int)) % 18446744073709551616 = _
  omega
 have hg : (eqGuard .add t x y (.int .u64 ((i : Nat) : Int)) (.int .u64 ((n : Nat) : Int))).run P w = .ok () w := rfl
 have key2 : (binOp .add t (.int .u64 ((i : Nat) : Int)) (.int .u64 ((n : Nat) : Int))).run P w = .ok (.int .u64 (((i + n : Nat)) : Int)) w := by
  have : (binOp .add t (.int .u64 ((i : Nat) : Int)) (.int .u64 ((n : Nat) : Int))).run P w = .ok (.int .u64 (IntKind.u64.wrap (((i : Nat) : Int) + ((n : Nat) : Int)))) w := rfl
  rw [this, hm]
 unfold execOp
 simp only [ho, hx, hy]
 simp only [Sem.run_bind, Sem.run_pure, hg, Result.andThen_ok, key2]
theorem arr_slice_from (t e : TypeId) (x y : Operand) (n l : Nat) (ho : o.op = .slice t x (some y) none none) (ht : P.underlying t = some (.array n e)) (hsz : (P.info? e).map (·.size) = some 1) (g : Nat) (hx : a.eval x = .pointer (some ⟨g, 0, none⟩)) (hy : a.eval y = .int .i64 ((l : Nat) : Int)) (hl : l < n) :
  (execOp a.eval o).run P w = .ok (.value (.slice (some ⟨g, l, none⟩) (n - l) (n - l))) w := by
 obtain ⟨i, hi, hs⟩ := Option.map_eq_some_iff.1 hsz
 unfold execOp
 simp only [ho, hx, hy, Option.map_none, Option.map_some]
 have e0 : (⟨g, 0, none⟩ : Addr).add l = ⟨g, l, none⟩ := by rw [Addr.add_mid, Nat.zero_add]
 simp [Instr.sliceAt, Instr.slice, Instr.sureAddr, run_underlying ht, Instr.sliceBounds, Go.sizeOf, typeInfo, hi, hs, e0, run_sliceBound w .i64 (l : Int) n _ (by omega) (by omega)]
 omega
end
theorem made_zeros (k : Nat) : madeCells #[Value.int .u8 0] k = (b8s (List.replicate k 0)).toArray := by
 unfold madeCells
 apply Array.ext
 ·simp [b8s]
 ·intro i h1 h2
  simp [b8s, Nat.mod_one]
section
variable {P : Program} {w : World} {a : Act} {o : Oper}
theorem make0 (t e : TypeId) (x y : Operand) (ho : o.op = .makeSlice t x y) (ht : P.underlying t = some (.slice e)) (hinfo : (P.info? e).map (fun i => (i.zero, i.size, i.bytes)) = some (some (.int .u8 0), 1, 1)) (k : Nat) (hk : k ≤ 140737488355328) (hx : a.eval x = .int .i64 0) (hy : a.eval y = .int .i64 ((k : Nat) : Int)) :
  ∃ v w1, (execOp a.eval o).run P w = .ok (.value v) w1 ∧ v = .slice (some ⟨w.heap.size, 0, none⟩) 0 k ∧ Own8 w1 w.heap.size e (some ⟨w.heap.size, 0, none⟩) 0 k [] ∧ Chg [] w w1 ∧ w.heap.size < w1.heap.size := by
 obtain ⟨i, hi, hs⟩ := Option.map_eq_some_iff.1 hinfo
 simp only [Prod.mk.injEq] at hs
 have h := run_make (P := P) w t e i (.int .u8 0) ht hi hs.1 .i64 .i64 0 ((k : Nat) : Int) (by omega) (by omega) (by rw [hs.2.2]; omega) (by omega)
 rw [hs.2.1, Int.toNat_natCast, Nat.mul_one, show (Value.int .u8 0).cells = #[.int .u8 0] from rfl, made_zeros] at h
 refine ⟨_, w.alloc (.cells (b8s (List.replicate k 0)).toArray e), ?_, rfl, own8 ⟨rfl, .inr ⟨w.heap.size, k, (b8s (List.replicate k 0)).toArray, rfl, Nat.le_refl _, heap_alloc_new w _, Nat.zero_le _, by unfold maxLen; omega, by simp [b8s], rfl⟩⟩, Chg.alloc w _, by simp⟩
 unfold execOp
 simp only [ho, hx, hy, Sem.run_bind, h, Result.andThen_ok, Sem.run_pure]
 rfl
end
theorem beN_lt56 {l : List UInt8} {i : Nat} (h : i ≤ 7) : beN (l.take i) < 72057594037927936 := by
 have h1 := beN_lt (l.take i)
 have h2 : 256 ^ (l.take i).length ≤ 256 ^ 7 := Nat.pow_le_pow_right (by decide) (by rw [List.length_take]; omega)
 exact Nat.lt_of_lt_of_le h1 h2
theorem beN_lt64 {l : List UInt8} (h : l.length ≤ 8) : beN l < 18446744073709551616 := Nat.lt_of_lt_of_le (beN_lt l) (Nat.le_trans (Nat.pow_le_pow_right (by decide) h) (by decide : 256 ^ 8 ≤ 18446744073709551616))
theorem beN_more {l : List UInt8} {i : Nat} (h : i < l.length) : beN (l.take i) * 256 + (l.getD i 0).toNat = beN (l.take (i + 1)) := by
 rw [beN_take (x := l.getD i 0) (by rw [List.getD_eq_getElem?_getD, List.getElem?_eq_getElem h]; rfl)]
section
variable {b r : List UInt8} {p : Nat} {s : UInt8}
theorem readN_ok (h : b.drop p = s :: r) (h8 : s.toNat ≤ 8) (hl : s.toNat ≤ r.length) (h0 : s.toNat = 0 ∨ (r.getD 0 0).toNat ≠ 0) : readN (b.drop p) = some (beN (r.take s.toNat), b.drop (p + 1 + s.toNat)) := by
 have e : r = b.drop (p + 1) := by rw [← List.drop_drop, h]; rfl
 rw [h, readN_cons, if_neg, ← List.drop_drop, ← e]
 rintro (h1 | h1 | ⟨h1, h2⟩)
 ·omega
 ·omega
 ·rcases h0 with h0 | h0
  ·omega
  ·rcases r with _ | ⟨x, r⟩
   ·cases h2
   ·injection h2 with h2
    subst h2
    exact h0 rfl
theorem readN_big (h : b.drop p = s :: r) (h8 : 8 < s.toNat) : readN (b.drop p) = none := by rw [h, readN_cons, if_pos (.inl h8)]
theorem readN_short (h : b.drop p = s :: r) (hl : r.length < s.toNat) : readN (b.drop p) = none := by rw [h, readN_cons, if_pos (.inr (.inl hl))]
theorem readN_zero (h : b.drop p = s :: r) (hs : 0 < s.toNat) (hr : 0 < r.length) (h0 : (r.getD 0 0).toNat = 0) : readN (b.drop p) = none := by
 have hh : r.head? = some 0 := by
  rcases r with _ | ⟨x, r⟩
  ·cases hr
  ·exact congrArg some (UInt8.toNat_inj.1 h0)
 rw [h, readN_cons, if_pos (.inr (.inr ⟨hs, hh⟩))]
theorem readN_nil (h : b.length ≤ p) : readN (b.drop p) = none := by rw [List.drop_of_length_le h]; rfl
theorem drop_cons (h : p < b.length) : ∃ s r, b.drop p = s :: r := ⟨_, _, List.drop_eq_getElem_cons h⟩
end
theorem form_byt {w : World} {g j N : Nat} {tl : List UInt8} {T : TypeId} {fr : Nat × Nat} (hF : FormAt N 0 (9 - j) tl) (hj : 1 ≤ j ∧ j ≤ 9) (h : w.heap[g]? = some (.cells (b8s ((nineF (9 - j) tl).set (j - 1) (UInt8.ofNat (9 - j)))).toArray T fr)) : Byt w (some ⟨g, j - 1, none⟩) (9 - (j - 1)) (formN N) := by
 have e1 : (nineF (9 - j) tl).set (j - 1) (UInt8.ofNat (9 - j)) = nineF (9 - j + 1) (UInt8.ofNat (9 - j) :: tl) := by
  rw [show j - 1 = 9 - (9 - j + 1) by omega, nineF_set _ (by omega)]
 rw [e1, ← formAt_end hF] at h
 have hl : (formN N).length = 9 - j + 1 := by rw [formAt_end hF, List.length_cons, hF.2]
 have hn : (nineF (9 - j + 1) (formN N)).length = 9 := nineF_len hl (by omega)
 have h1 := byt_sub (byt_blk _ hn h) (j - 1) 9 (9 - (j - 1)) (by omega) (Nat.le_refl _)
 rw [List.take_of_length_le (by omega)] at h1
 have e2 : (nineF (9 - j + 1) (formN N)).drop (j - 1) = formN N := by
  rw [show j - 1 = 9 - (9 - j + 1) by omega]
  exact nineF_drop
 rw [e2, Nat.zero_add] at h1
 exact h1
-- what is passed over at one stroke
end Mur
namespace Mur
open Go Go.RowKit Wk
theorem mayM_iff {kd : UInt8} {p s : List UInt8} {n : Int} {l : List Att} {b : Bool} : mayM ⟨kd, p, s, n, l, b⟩ ↔ isPre p = true ∧ 0 ≤ n ∧ n ≤ 200 ∧ l.length ≤ 8 ∧ ((kd = 1 ∧ l = [] ∧ b = false) ∨ (kd = 2 ∧ (∀ x, x ∈ l → may x.n ∧ under p x.k = true) ∧ Sorted l ∧ s = z32 ∧ n = 0)) := Iff.rfl
theorem sorted_one {I : List Att} {x : Att} (hx : I[0]? = some x) : Sorted (I.take 1) := by
 obtain ⟨h, rfl⟩ := List.getElem?_eq_some_iff.1 hx
 rw [List.take_succ_eq_append_getElem h]
 exact List.pairwise_singleton _ _
theorem sorted_more {I : List Att} {i : Nat} {x z : Att} (hs : Sorted (I.take i)) (hx : I[i]? = some x) (hz : I[i - 1]? = some z) (hi : 0 < i) (h : z.lt x) : Sorted (I.take (i + 1)) := by
 obtain ⟨h1, rfl⟩ := List.getElem?_eq_some_iff.1 hx
 rw [List.take_succ_eq_append_getElem h1]
 refine List.pairwise_append.2 ⟨hs, List.pairwise_singleton _ _, fun a ha b hb => ?_⟩
 rw [List.mem_singleton.1 hb]
 obtain ⟨j, hj, rfl⟩ := List.getElem_of_mem ha
 rw [List.length_take] at hj
 have hzt : (I.take i)[i - 1]? = some z := by rw [List.getElem?_take, if_pos (by omega)]; exact hz
 rcases Nat.lt_or_ge j (i - 1) with h2 | h2
 ·exact Att.lt_trans (hs.lt (List.getElem?_eq_getElem (by rw [List.length_take]; omega)) hzt h2) h
 ·obtain rfl : j = i - 1 := by omega
  rw [List.getElem?_eq_getElem (by rw [List.length_take]; omega)] at hzt
  rw [Option.some.inj hzt]
  exact h
theorem not_sorted {I : List Att} {i : Nat} {x z : Att} (hx : I[i]? = some x) (hz : I[i - 1]? = some z) (hi : 0 < i) (h : ¬ z.lt x) : ¬ Sorted I := fun hs => h (hs.lt hz hx (by omega))
structure Raw where
 kd : UInt8
 P : Option Addr
 pn : Nat
 pc : Nat
 s : List UInt8
 n : Int
 A : Option Addr
 an : Nat
 ac : Nat
 b : Bool
 hs : s.length = 32
def Raw.C (r : Raw) : List Value := msgC r.kd r.P r.pn r.pc r.s r.n r.A r.an r.ac r.b
def Raw.subs (r : Raw) : List Nat := pblk r.P r.pn ++ pblk r.A r.an
structure RawOk (w : World) (r : Raw) (m : Msg) : Prop where
 kd : r.kd = m.kind
 s : r.s = m.sum
 n : r.n = m.cnt
 b : r.b = m.ans
 byt : Byt w r.P r.pn m.pre
 sl : SlA w r.A r.an m.items
 nilP : r.P = none → r.pc = 0
 nilA : r.A = none → r.ac = 0
 anc : r.an ≤ r.ac ∧ r.ac ≤ 9223372036854775807
 pnc : r.pn ≤ r.pc ∧ r.pc ≤ 9223372036854775807
theorem RawOk.keep {w w' : World} {r : Raw} {m : Msg} {F : List Nat} (h : RawOk w r m) (k : Keep F w w') (hF : ∀ q, q ∈ r.subs → q ∈ F) : RawOk w' r m :=
 ⟨h.kd, h.s, h.n, h.b, byt_keep h.byt k fun q hq => hF q (List.mem_append_left _ hq), h.sl.keep k fun g _ e hn => hF g (List.mem_append_right _ (pblk_mem e hn)), h.nilP, h.nilA, h.anc, h.pnc⟩
def subsL (R : List Raw) : List Nat := R.flatMap Raw.subs
def RawsOk (w : World) : List Raw → List Msg → Prop
 | [], [] => True
 | r :: R, m :: M => RawOk w r m ∧ RawsOk w R M
 | _, _ => False
theorem RawsOk.keep {w w' : World} {F : List Nat} (k : Keep F w w') : ∀ {R : List Raw} {M : List Msg}, RawsOk w R M → (∀ q, q ∈ subsL R → q ∈ F) → RawsOk w' R M
 | [], [], _, _ => trivial
 | [], _ :: _, h, _ => h.elim
 | _ :: _, [], h, _ => h.elim
 | r :: R, m :: M, h, hF => ⟨h.1.keep k fun q hq => hF q (by simp only [subsL, List.flatMap_cons, List.mem_append]; exact .inl hq), RawsOk.keep k h.2 fun q hq => hF q (by simp only [subsL, List.flatMap_cons, List.mem_append]; exact .inr hq)⟩
theorem RawsOk.snoc {w : World} {r : Raw} {m : Msg} (hr : RawOk w r m) : ∀ {R : List Raw} {M : List Msg}, RawsOk w R M → RawsOk w (R ++ [r]) (M ++ [m])
 | [], [], _ => ⟨hr, trivial⟩
 | [], _ :: _, h => h.elim
 | _ :: _, [], h => h.elim
 | _ :: _, _ :: _, h => ⟨h.1, RawsOk.snoc hr h.2⟩
theorem RawsOk.length {w : World} : ∀ {R : List Raw} {M : List Msg}, RawsOk w R M → R.length = M.length
 | [], [], _ => rfl
 | [], _ :: _, h => h.elim
 | _ :: _, [], h => h.elim
 | _ :: _, _ :: _, h => by rw [List.length_cons, List.length_cons, RawsOk.length h.2]
theorem RawsOk.at {w : World} : ∀ {R : List Raw} {M : List Msg} {i : Nat} {r : Raw}, RawsOk w R M → R[i]? = some r → ∃ m, M[i]? = some m ∧ RawOk w r m
 | [], [], i, r, _, hr => by simp at hr
 | [], _ :: _, _, _, h, _ => h.elim
 | _ :: _, [], _, _, h, _ => h.elim
 | r0 :: _, m0 :: _, 0, r, h, hr => by
  simp at hr
  subst hr
  exact ⟨m0, by simp, h.1⟩
 | _ :: _, _ :: _, i + 1, r, h, hr => by
  obtain ⟨m, h1, h2⟩ := RawsOk.at h.2 (i := i) (r := r) (by simpa using hr)
  exact ⟨m, by simpa using h1, h2⟩
end Mur
namespace Mur
open Go Go.RowKit Wk
section
variable {α : Type}
theorem flat_part {L : List (List α)} {sz : List Nat} (hs : L.map List.length = sz) (i n : Nat) :
  L.flatten = (L.take i).flatten ++ (((L.drop i).take n).flatten ++ (L.drop (i + n)).flatten) ∧ (L.take i).flatten.length = (sz.take i).sum ∧ ((L.drop i).take n).flatten.length = ((sz.drop i).take n).sum := by
 refine ⟨?_, ?_, ?_⟩
 ·rw [← List.drop_drop, ← List.flatten_append, List.take_append_drop, ← List.flatten_append, List.take_append_drop]
 ·rw [List.length_flatten, List.map_take, hs]
 ·rw [List.length_flatten, List.map_take, List.map_drop, hs]
end
section
variable {w : World} {g o : Nat} {L : List (List Value)} {sz : List Nat}
theorem segs_rng (hs : L.map List.length = sz) (h : w.rangeAt g o L.flatten) (i n : Nat) {x : List Value} {k : Nat} (hx : ((L.drop i).take n).flatten = x) (hk : (sz.take i).sum = k) : w.rangeAt g (o + k) x := fun j v hv => by
 obtain ⟨h1, h2, _⟩ := flat_part hs i n
 rw [hx] at h1
 have hj := (List.getElem?_eq_some_iff.1 hv).1
 have := h (k + j) v (by
  rw [h1, List.getElem?_append_right (by omega), h2, hk, Nat.add_sub_cancel_left, List.getElem?_append_left hj]
  exact hv)
 rw [← Nat.add_assoc] at this
 exact this
theorem segs_cell (hs : L.map List.length = sz) (h : w.rangeAt g o L.flatten) (i : Nat) {v : Value} {k : Nat} (hx : L[i]? = some [v]) (hk : (sz.take i).sum = k) : w.cell? ⟨g, o + k, none⟩ = some v := by
 obtain ⟨hi, he⟩ := List.getElem?_eq_some_iff.1 hx
 have := segs_rng hs h i 1 (x := [v]) (k := k) (by rw [List.drop_eq_getElem_cons hi, he]; rfl) hk
 exact this 0 v rfl
theorem segs_row (hs : L.map List.length = sz) (h : w.rangeAt g o L.flatten) (i : Nat) {x : List Value} {k : Nat} (hx : L[i]? = some x) (hk : (sz.take i).sum = k) : w.rangeAt g (o + k) x := by
 obtain ⟨hi, he⟩ := List.getElem?_eq_some_iff.1 hx
 exact segs_rng hs h i 1 (by rw [List.drop_eq_getElem_cons hi, he]; simp) hk
variable {P : Program} {a : Act} {p : Oper}
theorem store_segs (ty : TypeId) (x y : Operand) (ho : p.op = .store ty x y) (off : Nat) (hx : a.eval x = .pointer (some ⟨g, off, none⟩)) (vs : List Value) (hy : a.eval y = .agg vs.toArray) (hi : (P.info? ty).map (·.size) = some vs.length) (h1 : ∀ v ∈ vs, v.oneCell' = true)
  (t : TypeId) (hs : L.map List.length = sz) (hg : w.heap[g]? = some (.cells L.flatten.toArray t (0, 0))) (i : Nat) (V : List (List Value)) (hV : V.flatten = vs) (hk : (sz.take i).sum = off) (hn : ((sz.drop i).take V.length).sum = vs.length)
  (L2 : List (List Value)) (hL : L.take i ++ (V ++ L.drop (i + V.length)) = L2) : ∃ w', (execOp a.eval p).run P w = .ok .skip w' ∧ w'.heap[g]? = some (.cells L2.flatten.toArray t (0, 0)) ∧ Chg [g] w w' := by
 obtain ⟨e1, e2, e3⟩ := flat_part hs i V.length
 obtain ⟨w', a1, a2, a3⟩ := storeR (P := P) ty x y ho g off hx vs hy hi h1 t L.flatten hg (by rw [e1, List.length_append, e2, List.length_append, e3, hk, hn]; omega)
 refine ⟨w', a1, ?_, a3⟩
 rw [a2, e1, splice_mid (by rw [e2, hk]) (by rw [e3, hn]), ← hL, List.flatten_append, List.flatten_append, hV]
theorem store_seg1 (ty : TypeId) (x y : Operand) (ho : p.op = .store ty x y) (hi : (P.info? ty).map (·.size) = some 1) (off : Nat) (hx : a.eval x = .pointer (some ⟨g, off, none⟩)) (v : Value) (hy : a.eval y = v) (h1 : v.oneCell' = true)
  (t : TypeId) (hs : L.map List.length = sz) (hg : w.heap[g]? = some (.cells L.flatten.toArray t (0, 0))) (i : Nat) (hk : (sz.take i).sum = off) (hn : ((sz.drop i).take 1).sum = 1)
  (L2 : List (List Value)) (hL : L.take i ++ ([v] :: L.drop (i + 1)) = L2) : ∃ w', (execOp a.eval p).run P w = .ok .skip w' ∧ w'.heap[g]? = some (.cells L2.flatten.toArray t (0, 0)) ∧ Chg [g] w w' := by
 obtain ⟨e1, e2, e3⟩ := flat_part hs i 1
 have hlt : off < L.flatten.length := by rw [e1, List.length_append, e2, List.length_append, e3, hk, hn]; omega
 obtain ⟨w', a1, a2, a3⟩ := store1 (P := P) ty x y ho hi g off hx v hy h1 t L.flatten.toArray hg (by simpa using hlt)
 refine ⟨w', a1, ?_, a3⟩
 have e4 : L.flatten.set off v = L2.flatten := by
  have := splice_set L.flatten off v [] hlt
  have e5 : splice (L.flatten.set off v) (off + 1) [] = L.flatten.set off v := by simp [splice]
  rw [e5, e1, splice_mid (vs := [v]) (by rw [e2, hk]) (by rw [e3, hn]; rfl)] at this
  rw [e1, this, ← hL, List.flatten_append, List.flatten_cons]
 rw [a2, List.setIfInBounds_toArray, e4]
end
theorem cutA_blk {A : Option Addr} {c k : Nat} {Q : Nat → Prop} (h : ∀ a, A = some a → Q a.block) : ∀ a, cutA A c k = some a → Q a.block := fun a ha => by
 unfold cutA at ha
 split at ha
 ·exact h a ha
 ·obtain ⟨a', h1, rfl⟩ := Option.map_eq_some_iff.1 ha
  have e : (a'.add k).block = a'.block := by unfold Addr.add; split <;> rfl
  rw [e]
  exact h a' h1
theorem cutA_ne {w : World} {A : Option Addr} {n c k : Nat} {l : List UInt8} (h : Byt w A n l) (hn : 0 < n) : cutA A c k ≠ none := fun e => by
 obtain ⟨g, off, rfl, _⟩ := h.2 hn
 unfold cutA at e
 split at e <;> cases e
theorem byt_chgp {S : List Nat} {w w' : World} {A : Option Addr} {n : Nat} {l : List UInt8} (h : Byt w A n l) (c : Chg S w w') (ho : ∀ g off, A = some ⟨g, off, none⟩ → 0 < n → g < w.heap.size → Off g S) : Byt w' A n l := by
 rcases Nat.eq_zero_or_pos n with h0 | h0
 ·subst h0
  exact ⟨h.1, fun h1 => absurd h1 (Nat.lt_irrefl 0)⟩
 ·exact byt_chg h c fun g off e hl => ho g off e h0 hl
theorem rng_byt {w : World} {g off n : Nat} {l : List UInt8} (h : Byt w (some ⟨g, off, none⟩) n l) : w.rangeAt g off (b8s l) := fun j v hv => by
 have hj : j < l.length := by have := (List.getElem?_eq_some_iff.1 hv).1; rwa [b8s_length] at this
 have h1 := b8s_get l j hj
 rw [hv] at h1
 rw [Option.some.inj h1]
 obtain ⟨g2, off2, e, hc⟩ := h.2 (by have := h.1; omega)
 cases e
 exact hc j (by have := h.1; omega)
section
variable {P : Program} {w : World} {a : Act} {o : Oper}
theorem s2a (t e : TypeId) (x : Operand) (n : Nat) (ho : o.op = .sliceToArrayPointer t x) (ht : P.underlying t = some (.array n e)) (A : Option Addr) (m c : Nat) (hx : a.eval x = .slice A m c) (hm : n ≤ m) : (execOp a.eval o).run P w = .ok (.value (.pointer A)) w := by
 unfold execOp
 simp only [ho, hx]
 simp [Instr.arrayAt, run_underlying ht]
 omega
theorem run_op_cutF (t : TypeId) (x y z : Operand) (ho : o.op = .slice t x (some y) (some z) none) (e : TypeId) (ht : P.underlying t = some (.slice e)) (hsz : (P.info? e).map (·.size) = some 1)
  (A : Option Addr) (n c l m : Nat) (hx : a.eval x = .slice A n c) (hy : a.eval y = .int .i64 (l : Int)) (hz : a.eval z = .int .i64 (m : Int)) (hl : l ≤ m) (hm : m ≤ n) (hnc : n ≤ c) :
  (execOp a.eval o).run P w = .ok (.value (.slice (cutA A c l) (m - l) (c - l))) w := by
 unfold execOp
 simp only [ho, hx, hy, hz, Option.map_some, Option.map_none, Sem.run_bind, run_cut t e ht hsz A n c l m hl hm hnc, Result.andThen_ok, Sem.run_pure]
theorem makeZ (t e : TypeId) (x : Operand) (ho : o.op = .makeSlice t x x) (ht : P.underlying t = some (.slice e)) (hinfo : (P.info? e).map (fun i => (i.zero, i.size, i.bytes)) = some (some (.int .u8 0), 1, 1)) (k : Nat) (hk : k ≤ 1000000) (hx : a.eval x = .int .i64 ((k : Nat) : Int)) :
  ∃ v w1, (execOp a.eval o).run P w = .ok (.value v) w1 ∧ v = .slice (some ⟨w.heap.size, 0, none⟩) k k ∧ w1.heap[w.heap.size]? = some (.cells (b8s (List.replicate k 0)).toArray e (0, 0)) ∧ Chg [] w w1 ∧ w.heap.size < w1.heap.size := by
 obtain ⟨i, hi, hs⟩ := Option.map_eq_some_iff.1 hinfo
 simp only [Prod.mk.injEq] at hs
 have h := run_make (P := P) w t e i (.int .u8 0) ht hi hs.1 .i64 .i64 ((k : Nat) : Int) ((k : Nat) : Int) (by omega) (by omega) (by rw [hs.2.2]; omega) (by omega)
 rw [hs.2.1, Int.toNat_natCast, Nat.mul_one, show (Value.int .u8 0).cells = #[.int .u8 0] from rfl, made_zeros] at h
 refine ⟨_, w.alloc (.cells (b8s (List.replicate k 0)).toArray e), ?_, rfl, heap_alloc_new w _, Chg.alloc w _, by simp⟩
 unfold execOp
 simp only [ho, hx, Sem.run_bind, h, Result.andThen_ok, Sem.run_pure]
end
structure Sl3 where
 A : Option Addr
 n : Nat
 c : Nat
def sl0 : Sl3 := ⟨none, 0, 0⟩
def Sl3.v (s : Sl3) : Value := .slice s.A s.n s.c
def frmL (k : UInt8) (a b to : Int) (pk : UInt8) (sq : Nat) (ab : Int) (u : Sl3) (gk : UInt8) (p : Sl3) (gs : List UInt8) (gn : Int) (i : Sl3) (ga : Bool) (ck : List UInt8) (cn : Int) (ci cc : Nat) (cg : Bool) (ak ar : List UInt8) (an : Int) (at_ rt : List UInt8) (ch : Int) (y f : Sl3) : List (List Value) :=
 [[.int .u8 ((k.toNat : Nat) : Int)], [.int .i64 a], [.int .i64 b], [.int .i64 to], [.int .u8 ((pk.toNat : Nat) : Int)], [.int .u64 ((sq : Nat) : Int)], [.int .i64 ab], [.slice u.A u.n u.c], [.int .u8 ((gk.toNat : Nat) : Int)], [.slice p.A p.n p.c], b8s gs, [.int .i64 gn], [.slice i.A i.n i.c], [.bool ga],
  b8s ck, [.int .i64 cn], [.int .u64 ((ci : Nat) : Int)], [.int .u64 ((cc : Nat) : Int)], [.bool cg], b8s ak, b8s ar, [.int .i64 an], b8s at_, b8s rt, [.int .i64 ch], [.slice y.A y.n y.c], [.slice f.A f.n f.c]]
def frmS : List Nat := [1, 1, 1, 1, 1, 1, 1, 1, 1, 1, 32, 1, 1, 1, 32, 1, 1, 1, 1, 32, 32, 1, 32, 32, 1, 1, 1]
section
variable {k : UInt8} {a b to : Int} {pk : UInt8} {sq : Nat} {ab : Int} {u : Sl3} {gk : UInt8} {p : Sl3} {gs : List UInt8} {gn : Int} {i : Sl3} {ga : Bool} {ck : List UInt8} {cn : Int} {ci cc : Nat} {cg : Bool} {ak ar : List UInt8} {an : Int} {at_ rt : List UInt8} {ch : Int} {y f : Sl3}
theorem frmL_sz (h1 : gs.length = 32) (h2 : ck.length = 32) (h3 : ak.length = 32) (h4 : ar.length = 32) (h5 : at_.length = 32) (h6 : rt.length = 32) : (frmL k a b to pk sq ab u gk p gs gn i ga ck cn ci cc cg ak ar an at_ rt ch y f).map List.length = frmS := by
 simp [frmL, frmS, b8s_length, h1, h2, h3, h4, h5, h6]
theorem frmL_size (h : (frmL k a b to pk sq ab u gk p gs gn i ga ck cn ci cc cg ak ar an at_ rt ch y f).map List.length = frmS) : (frmL k a b to pk sq ab u gk p gs gn i ga ck cn ci cc cg ak ar an at_ rt ch y f).flatten.toArray.size = 213 := by
 rw [List.size_toArray, List.length_flatten, h]
 rfl
theorem frmL_one : ∀ v ∈ (frmL k a b to pk sq ab u gk p gs gn i ga ck cn ci cc cg ak ar an at_ rt ch y f).flatten, v.oneCell' = true := by
 intro v hv
 obtain ⟨l, hl, hv⟩ := List.mem_flatten.1 hv
 have hb : ∀ x : List UInt8, l = b8s x → v.oneCell' = true := fun x e => b8s_one x v (e ▸ hv)
 have hs : ∀ z : Value, z.oneCell' = true → l = [z] → v.oneCell' = true := fun z hz e => by
  rw [e] at hv
  rw [List.mem_singleton.1 hv]
  exact hz
 simp only [frmL, List.mem_cons, List.not_mem_nil, or_false] at hl
 rcases hl with e | e | e | e | e | e | e | e | e | e | e | e | e | e | e | e | e | e | e | e | e | e | e | e | e | e | e <;> first | exact hb _ e | exact hs _ rfl e
theorem frmL_all : (frmL k a b to pk sq ab u gk p gs gn i ga ck cn ci cc cg ak ar an at_ rt ch y f).flatten.toArray.all (·.oneCell') = true := Array.all_eq_true_iff_forall_mem.2 fun v hv => frmL_one v (by simpa using hv)
theorem frmL_att : (((frmL k a b to pk sq ab u gk p gs gn i ga ck cn ci cc cg ak ar an at_ rt ch y f).drop 19).take 4).flatten = attC ak ar an at_ := by
 show b8s ak ++ (b8s ar ++ (Value.int .i64 an :: (b8s at_ ++ []))) = _
 rw [List.append_nil]
 rfl
end
theorem att_parts (k r : List UInt8) (n : Int) (t : List UInt8) : ([b8s k, b8s r, [.int .i64 n], b8s t] : List (List Value)).flatten = attC k r n t := by
 show b8s k ++ (b8s r ++ (Value.int .i64 n :: (b8s t ++ []))) = _
 rw [List.append_nil]
 rfl
def claimC (ck : List UInt8) (cn : Int) (ci cc : Nat) (cg : Bool) : List Value := b8s ck ++ [.int .i64 cn, .int .u64 ((ci : Nat) : Int), .int .u64 ((cc : Nat) : Int), .bool cg]
section
variable {ck : List UInt8} {cn : Int} {ci cc : Nat} {cg : Bool}
theorem claimC_length (h : ck.length = 32) : (claimC ck cn ci cc cg).length = 36 := by simp [claimC, b8s_length, h]
theorem claimC_one : ∀ v ∈ claimC ck cn ci cc cg, v.oneCell' = true := by
 intro v hv
 simp only [claimC, List.mem_append, List.mem_cons, List.not_mem_nil, or_false] at hv
 rcases hv with h | rfl | rfl | rfl | rfl
 ·exact b8s_one _ v h
 ·rfl
 ·rfl
 ·rfl
 ·rfl
end
structure Zs where
 u : Sl3
 p : Sl3
 i : Sl3
 y : Sl3
 f : Sl3
def zs0 : Zs := ⟨sl0, sl0, sl0, sl0, sl0⟩
abbrev frmP (f : Frm) (z : Zs) : List (List Value) := frmL f.kind f.frm f.dst f.pTo f.pKind f.pSeq f.pAbout z.u f.gos.kind z.p f.gos.sum f.gos.cnt z.i f.gos.ans f.cKey f.cNode f.cInc f.cCnt f.cGone f.att.k f.att.r f.att.n f.att.t f.root f.chunk z.y z.f
def updC (u : Int × UInt8 × Nat) : List Value := [.int .i64 u.1, .int .u8 ((u.2.1.toNat : Nat) : Int), .int .u64 ((u.2.2 : Nat) : Int)]
theorem upd_sized (l : List (Int × UInt8 × Nat)) : Sized 3 (l.map updC) := fun c hc => by
 obtain ⟨r, _, rfl⟩ := List.mem_map.1 hc
 exact ⟨rfl, fun v hv => by simp only [updC, List.mem_cons, List.not_mem_nil, or_false] at hv; rcases hv with rfl | rfl | rfl <;> rfl⟩
theorem dig_sized {l : List (List UInt8)} (h : ∀ x, x ∈ l → x.length = 32) : Sized 32 (l.map b8s) := fun c hc => by
 obtain ⟨r, hr, rfl⟩ := List.mem_map.1 hc
 exact ⟨by rw [b8s_length, h r hr], b8s_one r⟩
structure SlN (s : Sl3) : Prop where
 nil : s.A = none → s.c = 0
 nc : s.n ≤ s.c
 cm : s.c ≤ 9223372036854775807
theorem SlN.zero : SlN sl0 := ⟨fun _ => rfl, Nat.le_refl _, by decide⟩
structure LiesF (w : World) (z : Zs) (f : Frm) : Prop where
 upd : SlR w 3 z.u.A z.u.n (f.pUpd.map updC)
 pre : Byt w z.p.A z.p.n f.gos.pre
 its : SlA w z.i.A z.i.n f.gos.items
 byt : Byt w z.y.A z.y.n f.byt
 prf : SlR w 32 z.f.A z.f.n (f.prf.map b8s)
 nu : SlN z.u
 np : SlN z.p
 ni : SlN z.i
 ny : SlN z.y
 nf : SlN z.f
def Zs.In (z : Zs) (Q : Nat → Prop) : Prop := (∀ g off, z.u.A = some ⟨g, off, none⟩ → Q g) ∧ (∀ g off, z.p.A = some ⟨g, off, none⟩ → Q g) ∧ (∀ g off, z.i.A = some ⟨g, off, none⟩ → Q g) ∧ (∀ g off, z.y.A = some ⟨g, off, none⟩ → Q g) ∧ (∀ g off, z.f.A = some ⟨g, off, none⟩ → Q g)
theorem LiesF.chg {w w' : World} {z : Zs} {f : Frm} {S : List Nat} (h : LiesF w z f) (c : Chg S w w') (ho : z.In fun g => g < w.heap.size → Off g S) : LiesF w' z f :=
 ⟨h.upd.chg c ho.1, byt_chg h.pre c ho.2.1, h.its.chg c ho.2.2.1, byt_chg h.byt c ho.2.2.2.1, h.prf.chg c ho.2.2.2.2, h.nu, h.np, h.ni, h.ny, h.nf⟩
theorem slR_nil (w : World) (sz : Nat) (A : Option Addr) : SlR w sz A 0 [] := ⟨rfl, fun _ h => (by cases h), Sl.nil w A sz⟩
theorem byt_nil0 (w : World) (A : Option Addr) : Byt w A 0 [] := ⟨rfl, fun h => absurd h (Nat.lt_irrefl 0)⟩
structure FrmIn (f : Frm) : Prop where
 ok : FrmOk f
 frm : -9223372036854775808 ≤ f.frm ∧ f.frm ≤ 9223372036854775807
 dst : -9223372036854775808 ≤ f.dst ∧ f.dst ≤ 9223372036854775807
 pTo : -9223372036854775808 ≤ f.pTo ∧ f.pTo ≤ 9223372036854775807
 pAb : -9223372036854775808 ≤ f.pAbout ∧ f.pAbout ≤ 9223372036854775807
 upd : ∀ u, u ∈ f.pUpd → -9223372036854775808 ≤ u.1 ∧ u.1 ≤ 9223372036854775807
 cnt : -9223372036854775808 ≤ f.gos.cnt ∧ f.gos.cnt ≤ 9223372036854775807
 cNo : -9223372036854775808 ≤ f.cNode ∧ f.cNode ≤ 9223372036854775807
 chk : -9223372036854775808 ≤ f.chunk ∧ f.chunk ≤ 9223372036854775807
end Mur
namespace Go.Proofs.YtgbadghjnpbiaaaGreatDoor
open Go.RowKit Wk
open Mur (b8s z32 sl0 frmL claimC)
theorem built_head0 : Program.built Tryz.prog 38 [] = some (frmL 0 0 0 0 0 0 0 sl0 0 sl0 z32 0 sl0 false z32 0 0 0 false z32 z32 0 z32 z32 0 sl0 sl0).flatten.toArray := by kernel_rfl
theorem built_head1 (k : UInt8) : Program.built Tryz.prog 38 [(0, .int .u8 ((k.toNat : Nat) : Int))] = some (frmL k 0 0 0 0 0 0 sl0 0 sl0 z32 0 sl0 false z32 0 0 0 false z32 z32 0 z32 z32 0 sl0 sl0).flatten.toArray := by kernel_rfl
theorem built_head3 (k : UInt8) (a b : Int) : Program.built Tryz.prog 38 [(0, .int .u8 ((k.toNat : Nat) : Int)), (1, .int .i64 a), (2, .int .i64 b)] = some (frmL k a b 0 0 0 0 sl0 0 sl0 z32 0 sl0 false z32 0 0 0 false z32 z32 0 z32 z32 0 sl0 sl0).flatten.toArray := by kernel_rfl
end Go.Proofs.YtgbadghjnpbiaaaGreatDoor
namespace Mur
theorem FrmIn.sz {f : Frm} {z : Zs} (h : FrmIn f) : (frmP f z).map List.length = frmS := frmL_sz h.ok.sum h.ok.key f.att.hk f.att.hr f.att.ht h.ok.root
end Mur
namespace Go
open Wk Mur
abbrev frmh (k : UInt8) (a b : Int) : List (List Value) := frmL k a b 0 0 0 0 sl0 0 sl0 z32 0 sl0 false z32 0 0 0 false z32 z32 0 z32 z32 0 sl0 sl0
theorem fl {P : Program} {a : Act} {w : World} {o : Oper} (ty : TypeId) (x g off : Nat) (v : Value) {L : List (List Value)} {t : TypeId} {fr : Nat × Nat} (hs : L.map List.length = frmS) (h : w.heap[g]? = some (.cells L.flatten.toArray t fr)) (i : Nat) (hx : L[i]? = some [v] := by exact rfl) (hk : (frmS.take i).sum = off := by exact rfl)
  (ho : o.op = .load ty (.tmp x) := by exact rfl) (hi : (match P.underlying ty with | some (.struct _) | some (.array _ _) | none => false | _ => true) = true := by kernel_rfl) (hp : a.eval (.tmp x) = .pointer (some ⟨g, off, none⟩) := by kernel_rfl) : (execOp a.eval o).run P w = .ok (.value v) w := by
 have hc := segs_cell hs (range_row h) i hx hk
 rw [Nat.zero_add] at hc
 exact load1 ty (.tmp x) ho hi ⟨g, off, none⟩ hp v hc
end Go
namespace Go
open Wk Mur
theorem sgR {w : World} {L : List (List Value)} {sz : List Nat} {g : Nat} {t : TypeId} {fr : Nat × Nat} {x : List Value} {k : Nat} (hs : L.map List.length = sz) (h : w.heap[g]? = some (.cells L.flatten.toArray t fr)) (i n : Nat) (hx : ((L.drop i).take n).flatten = x) (hk : (sz.take i).sum = k := by exact rfl) : w.rangeAt g k x := by
 have := segs_rng hs (range_row h) i n hx hk
 rwa [Nat.zero_add] at this
theorem sgW {w : World} {L : List (List Value)} {sz : List Nat} {g : Nat} {t : TypeId} {fr : Nat × Nat} {x : List Value} {k : Nat} (hs : L.map List.length = sz) (h : w.heap[g]? = some (.cells L.flatten.toArray t fr)) (i : Nat) (hx : L[i]? = some x := by exact rfl) (hk : (sz.take i).sum = k := by exact rfl) : w.rangeAt g k x := by
 have := segs_row hs (range_row h) i hx hk
 rwa [Nat.zero_add] at this
section
variable {P : Program} {ops : Array Oper} {Q : Exit → Act → World → Prop} {a : Act} {w : World} {o : Oper}
theorem sA {n : Nat} (vs : Array Value) (hv : vs.size = n) {g : Nat} {t : TypeId} {cs : Array Value} (hg : w.heap[g]? = some (.cells cs t (0, 0))) (hn : cs.size = n) (h1 : vs.all (·.oneCell') = true := by exact Mur.frmL_all) {ty : TypeId} {x y : Operand} (ho : o.op = .store ty x y := by exact rfl) (hx : a.eval x = .pointer (some ⟨g, 0, none⟩) := by kernel_rfl) (hy : a.eval y = .agg vs := by kernel_rfl) (hi : (P.info? ty).map (·.size) = some n := by kernel_rfl) :
  ∃ w', (execOp a.eval o).run P w = .ok .skip w' ∧ w'.heap[g]? = some (.cells vs t (0, 0)) ∧ Chg [g] w w' := storeArr ty x y ho g hx vs n hv h1 hy hi t cs hg hn
theorem sG {L : List (List Value)} {sz : List Nat} {g : Nat} {t : TypeId} (off : Nat) (v : Value) (hs : L.map List.length = sz) (hg : w.heap[g]? = some (.cells L.flatten.toArray t (0, 0))) (i : Nat) (L2 : List (List Value)) {ty : TypeId} {x y : Operand} (ho : o.op = .store ty x y := by exact rfl) (hi : (P.info? ty).map (·.size) = some 1 := by kernel_rfl) (hx : a.eval x = .pointer (some ⟨g, off, none⟩) := by kernel_rfl) (hy : a.eval y = v := by kernel_rfl) (h1 : v.oneCell' = true := by exact rfl) (hk : (sz.take i).sum = off := by exact rfl) (hn : ((sz.drop i).take 1).sum = 1 := by exact rfl) (hL : L.take i ++ ([v] :: L.drop (i + 1)) = L2 := by exact rfl) :
  ∃ w', (execOp a.eval o).run P w = .ok .skip w' ∧ w'.heap[g]? = some (.cells L2.flatten.toArray t (0, 0)) ∧ Chg [g] w w' := store_seg1 ty x y ho hi off hx v hy h1 t hs hg i hk hn L2 hL
theorem rF (i d off : Nat) (v : Value) {L : List (List Value)} {g : Nat} {t : TypeId} {fr : Nat × Nat} (hs : L.map List.length = frmS) (h : w.heap[g]? = some (.cells L.flatten.toArray t fr)) (n : Nat) (k : From P ops Q (i + 1) (a.put (some d) v) w) {ty : TypeId} {x : Nat} (hi : ops[i]? = some o := by exact rfl) (hd : o.dst = some d := by exact rfl) (ho : o.op = .load ty (.tmp x) := by exact rfl) (hx : L[n]? = some [v] := by exact rfl) (hk : (frmS.take n).sum = off := by exact rfl)
  (hu : (match P.underlying ty with | some (.struct _) | some (.array _ _) | none => false | _ => true) = true := by kernel_rfl) (hp : a.eval (.tmp x) = .pointer (some ⟨g, off, none⟩) := by kernel_rfl) (hw : Region.wanted o (yielded ops a.tmps) = true := by kernel_rfl) : From P ops Q i a w := rPure i (some d) v hi hd hw (fl ty x g off v hs h n hx hk ho hu hp) k
end
end Go
namespace Mur
open Go Go.RowKit Wk
section
variable {α : Type} {p : Prs α} {b : List UInt8} {at_ at1 at2 at3 : Nat} {bad bad1 bad2 bad3 : Bool}
theorem readC_no {k : Nat} (h : k < 1 ∨ 6 < k) (c : List UInt8) : readC k c = none := by
 unfold readC
 rw [if_neg (by omega), if_neg (by omega), if_neg (by omega), if_neg (by omega), if_neg (by omega), if_neg (by omega)]
theorem readK_le {c r : List UInt8} {v : Nat} (h : readK c = some (v, r)) : v ≤ 255 := (codecK.un _ _ _ h).2
theorem u8_small {v : Nat} (h : v ≤ 255) : (UInt8.ofNat v).toNat = v := by
 simp
 omega
theorem Step.gos_sum {v : Nat} {c : Cont} (h : Step readK b at_ bad at1 bad1 v) (k : Step readSm b at1 bad1 at2 bad2 c) (hv : UInt8.ofNat v = 1) : Step readGo b at_ bad at2 bad2 c := by
 have hv1 : v ≤ 255 → v = 1 := fun h1 => by
  have := congrArg UInt8.toNat hv
  rw [u8_small h1] at this
  exact this
 refine ⟨fun e => ?_, fun e => ?_⟩
 ·have h1 := k.ok e
  have h2 := h.ok h1.1
  refine ⟨h2.1, ?_⟩
  unfold readGo
  rw [h2.2, Option.bind_some, if_pos (hv1 (readK_le h2.2))]
  exact h1.2
 ·cases bad1 with
  | true => exact (h.no rfl).imp id fun h2 => by unfold readGo; rw [h2]; rfl
  | false =>
   have h2 := h.ok rfl
   rcases k.no e with h3 | h3
   ·cases h3
   ·refine .inr ?_
    unfold readGo
    rw [h2.2, Option.bind_some, if_pos (hv1 (readK_le h2.2))]
    exact h3
theorem Step.gos_items {v : Nat} {c : Cont} (h : Step readK b at_ bad at1 bad1 v) (k : Step (readIt v) b at1 bad1 at2 bad2 c) (hv : ¬ UInt8.ofNat v = 1) : Step readGo b at_ bad at2 bad2 c := by
 have hv1 : ¬ v = 1 := fun e => hv (by rw [e]; rfl)
 refine ⟨fun e => ?_, fun e => ?_⟩
 ·have h1 := k.ok e
  have h2 := h.ok h1.1
  refine ⟨h2.1, ?_⟩
  unfold readGo
  rw [h2.2, Option.bind_some, if_neg hv1]
  exact h1.2
 ·cases bad1 with
  | true => exact (h.no rfl).imp id fun h2 => by unfold readGo; rw [h2]; rfl
  | false =>
   have h2 := h.ok rfl
   rcases k.no e with h3 | h3
   ·cases h3
   ·refine .inr ?_
    unfold readGo
    rw [h2.2, Option.bind_some, if_neg hv1]
    exact h3
theorem Step.fra {v f d : Nat} {c : Cont} (h : Step (pSeq readK (pSeq readI readI)) b at_ bad at1 bad1 (v, (f, d))) (k : Step (readC (UInt8.ofNat v).toNat) b at1 bad1 at2 bad2 c) : Step readF b at_ bad at2 bad2 ⟨f, d, c⟩ := by
 have hk : ∀ {s r}, pSeq readK (pSeq readI readI) s = some ((v, (f, d)), r) → v ≤ 255 := fun {s r} e => by
  unfold pSeq at e
  obtain ⟨y, h1, h2⟩ := Option.bind_eq_some_iff.1 e
  obtain ⟨z, h3, h4⟩ := Option.map_eq_some_iff.1 h2
  simp only [Prod.mk.injEq] at h4
  obtain ⟨⟨rfl, _⟩, _⟩ := h4
  exact readK_le (v := y.1) (r := y.2) h1
 refine ⟨fun e => ?_, fun e => ?_⟩
 ·have h1 := k.ok e
  have h2 := h.ok h1.1
  refine ⟨h2.1, ?_⟩
  have h3 := h1.2
  rw [u8_small (hk h2.2)] at h3
  unfold readF
  rw [h2.2, Option.bind_some]
  show (readC v _).map _ = _
  rw [h3]
  rfl
 ·cases bad1 with
  | true => exact (h.no rfl).imp id fun h2 => by unfold readF; rw [h2]; rfl
  | false =>
   have h2 := h.ok rfl
   rcases k.no e with h3 | h3
   ·cases h3
   ·rw [u8_small (hk h2.2)] at h3
    refine .inr ?_
    unfold readF
    rw [h2.2, Option.bind_some]
    show (readC v _).map _ = _
    rw [h3]
    rfl
theorem Step.fra_no {v f d : Nat} (h : Step (pSeq readK (pSeq readI readI)) b at_ bad at1 bad1 (v, (f, d))) (hv : (UInt8.ofNat v).toNat < 1 ∨ 6 < (UInt8.ofNat v).toNat) : bad = true ∨ readF (b.drop at_) = none := by
 cases bad1 with
 | true => exact (h.no rfl).imp id fun h2 => by unfold readF; rw [h2]; rfl
 | false =>
  have h2 := h.ok rfl
  refine .inr ?_
  unfold readF
  rw [h2.2, Option.bind_some]
  show (readC v _).map _ = none
  have : v < 1 ∨ 6 < v := by
   rcases Nat.lt_or_ge 255 v with h3 | h3
   ·exact .inr (by omega)
   ·rw [u8_small h3] at hv
    exact hv
  rw [readC_no this]
  rfl
end
-- rows as they lie
def updU (u : Upd) : List Value := updC (((u.node : Nat) : Int), UInt8.ofNat u.st, u.inc)
def attL (x : Att) : List Value := attC x.k x.r x.n x.t
theorem updU_len (u : Upd) : (updU u).length = 3 := rfl
theorem updC_one (u : Int × UInt8 × Nat) : ∀ v ∈ updC u, v.oneCell' = true := (upd_sized [u] _ (List.mem_singleton.2 rfl)).2
theorem attL_len (x : Att) : (attL x).length = 97 := attC_length x.hk x.hr x.ht
theorem attL_flat : ∀ L : List Att, flatR (L.map attL) = rowA L
 | [] => rfl
 | x :: L => by
  have := attL_flat L
  simp only [flatR, List.map_cons, List.flatten_cons] at this ⊢
  rw [this]
  rfl
theorem SlR.slA {w : World} {A : Option Addr} {n : Nat} {L : List Att} (h : SlR w 97 A n (L.map attL)) : SlA w A n L := ⟨by rw [← h.len, List.length_map], by rw [← attL_flat]; exact h.sl⟩
theorem SlR.keepQ {w w' : World} {sz : Nat} {A : Option Addr} {n : Nat} {R : List (List Value)} {S : List Nat} (h : SlR w sz A n R) (c : Chg S w w') (ho : ∀ g off, A = some ⟨g, off, none⟩ → g < w.heap.size → Off g S) : SlR w' sz A n R := h.chg c ho
theorem updU_map (l : List Upd) : l.map updU = (l.map fun u => (((u.node : Nat) : Int), UInt8.ofNat u.st, u.inc)).map updC := by rw [List.map_map]; rfl
end Mur
namespace Mur
open Go Go.RowKit Wk
def inC : Cont → Prop
 | .probe _ s a l => s < 2 ^ 64 ∧ a ≤ 2 ^ 30 ∧ ∀ u, u ∈ l → u.node ≤ 2 ^ 30 ∧ u.inc < 2 ^ 64
 | .sum _ d n => d.length = 32 ∧ n ≤ 2 ^ 30
 | .items .. => True
 | .claim k i n _ => k.length = 32 ∧ i < 2 ^ 64 ∧ n < 2 ^ 64
 | .result _ => True
 | .want r c => r.length = 32 ∧ c ≤ 2 ^ 30
 | .chunk r c _ p => r.length = 32 ∧ c ≤ 2 ^ 30 ∧ ∀ x, x ∈ p → x.length = 32
theorem zN : (0 : Nat) < 2 ^ 64 := by decide
theorem zI : -9223372036854775808 ≤ (0 : Int) ∧ (0 : Int) ≤ 9223372036854775807 := by decide
theorem frmIn_head (k : UInt8) {a b : Int} (ha : -9223372036854775808 ≤ a ∧ a ≤ 9223372036854775807) (hb : -9223372036854775808 ≤ b ∧ b ≤ 9223372036854775807) : FrmIn (headM k a b) :=
 ⟨⟨zN, zN, zN, fun _ h => (by cases h), rfl, rfl, rfl, fun _ h => (by cases h)⟩, ha, hb, zI, zI, fun _ h => (by cases h), zI, zI, zI⟩
theorem frmIn_of {a b : Nat} (ha : a ≤ 2 ^ 30) (hb : b ≤ 2 ^ 30) {c : Cont} (h : inC c) : FrmIn (ofCon a b c) := by
 have hA : -9223372036854775808 ≤ ((a : Nat) : Int) ∧ ((a : Nat) : Int) ≤ 9223372036854775807 := by omega
 have hB : -9223372036854775808 ≤ ((b : Nat) : Int) ∧ ((b : Nat) : Int) ≤ 9223372036854775807 := by omega
 cases c with
 | probe k s m l =>
  obtain ⟨h1, h2, h3⟩ := h
  refine ⟨⟨h1, zN, zN, fun u hu => ?_, rfl, rfl, rfl, fun _ q => (by cases q)⟩, hA, hB, hB, ?_, fun u hu => ?_, zI, zI, zI⟩
  ·obtain ⟨v, hv, rfl⟩ := List.mem_map.1 hu
   exact (h3 v hv).2
  ·show -9223372036854775808 ≤ ((m : Nat) : Int) ∧ ((m : Nat) : Int) ≤ 9223372036854775807
   omega
  ·obtain ⟨v, hv, rfl⟩ := List.mem_map.1 hu
   have := (h3 v hv).1
   show -9223372036854775808 ≤ ((v.node : Nat) : Int) ∧ ((v.node : Nat) : Int) ≤ 9223372036854775807
   omega
 | sum p d n =>
  obtain ⟨h1, h2⟩ := h
  refine ⟨⟨zN, zN, zN, fun _ q => (by cases q), h1, rfl, rfl, fun _ q => (by cases q)⟩, hA, hB, zI, zI, fun _ q => (by cases q), ?_, zI, zI⟩
  show -9223372036854775808 ≤ ((n : Nat) : Int) ∧ ((n : Nat) : Int) ≤ 9223372036854775807
  omega
 | items k p l g => exact ⟨⟨zN, zN, zN, fun _ q => (by cases q), rfl, rfl, rfl, fun _ q => (by cases q)⟩, hA, hB, zI, zI, fun _ q => (by cases q), zI, zI, zI⟩
 | claim k i n g => exact ⟨⟨zN, h.2.1, h.2.2, fun _ q => (by cases q), rfl, h.1, rfl, fun _ q => (by cases q)⟩, hA, hB, zI, zI, fun _ q => (by cases q), zI, hA, zI⟩
 | result x => exact ⟨⟨zN, zN, zN, fun _ q => (by cases q), rfl, rfl, rfl, fun _ q => (by cases q)⟩, hA, hB, zI, zI, fun _ q => (by cases q), zI, zI, zI⟩
 | want r c =>
  obtain ⟨h1, h2⟩ := h
  refine ⟨⟨zN, zN, zN, fun _ q => (by cases q), rfl, rfl, h1, fun _ q => (by cases q)⟩, hA, hB, zI, zI, fun _ q => (by cases q), zI, zI, ?_⟩
  show -9223372036854775808 ≤ ((c : Nat) : Int) ∧ ((c : Nat) : Int) ≤ 9223372036854775807
  omega
 | chunk r c y p =>
  obtain ⟨h1, h2, h3⟩ := h
  refine ⟨⟨zN, zN, zN, fun _ q => (by cases q), rfl, rfl, h1, h3⟩, hA, hB, zI, zI, fun _ q => (by cases q), zI, zI, ?_⟩
  show -9223372036854775808 ≤ ((c : Nat) : Int) ∧ ((c : Nat) : Int) ≤ 9223372036854775807
  omega
section
variable {w : World} {a b : Nat}
theorem lies_none {f : Frm} (h1 : f.pUpd = []) (h2 : f.gos.pre = []) (h3 : f.gos.items = []) (h4 : f.byt = []) (h5 : f.prf = []) : LiesF w zs0 f :=
 ⟨by rw [h1]; exact slR_nil w 3 none, by rw [h2]; exact byt_nil0 w none, by rw [h3]; exact SlA.nil w none, by rw [h4]; exact byt_nil0 w none, by rw [h5]; exact slR_nil w 32 none, SlN.zero, SlN.zero, SlN.zero, SlN.zero, SlN.zero⟩
theorem lies_probe {u : Sl3} {k s m : Nat} {l : List Upd} (h : SlR w 3 u.A u.n (l.map updU)) (hn : SlN u) : LiesF w ⟨u, sl0, sl0, sl0, sl0⟩ (ofCon a b (.probe k s m l)) :=
 ⟨updU_map l ▸ h, byt_nil0 w none, SlA.nil w none, byt_nil0 w none, slR_nil w 32 none, hn, SlN.zero, SlN.zero, SlN.zero, SlN.zero⟩
theorem lies_sum {p : Sl3} {x d : List UInt8} {n : Nat} (h : Byt w p.A p.n x) (hn : SlN p) : LiesF w ⟨sl0, p, sl0, sl0, sl0⟩ (ofCon a b (.sum x d n)) :=
 ⟨slR_nil w 3 none, h, SlA.nil w none, byt_nil0 w none, slR_nil w 32 none, SlN.zero, hn, SlN.zero, SlN.zero, SlN.zero⟩
theorem lies_items {p i : Sl3} {k : Nat} {x : List UInt8} {l : List Att} {g : Bool} (h : Byt w p.A p.n x) (hn : SlN p) (h2 : SlR w 97 i.A i.n (l.map attL)) (hn2 : SlN i) : LiesF w ⟨sl0, p, i, sl0, sl0⟩ (ofCon a b (.items k x l g)) :=
 ⟨slR_nil w 3 none, h, h2.slA, byt_nil0 w none, slR_nil w 32 none, SlN.zero, hn, hn2, SlN.zero, SlN.zero⟩
theorem lies_chunk {y f : Sl3} {r : List UInt8} {c : Nat} {x : List UInt8} {l : List (List UInt8)} (h : Byt w y.A y.n x) (hn : SlN y) (h2 : SlR w 32 f.A f.n (l.map b8s)) (hn2 : SlN f) : LiesF w ⟨sl0, sl0, sl0, y, f⟩ (ofCon a b (.chunk r c x l)) :=
 ⟨slR_nil w 3 none, byt_nil0 w none, SlA.nil w none, h, h2, SlN.zero, SlN.zero, SlN.zero, hn, hn2⟩
end
theorem sl0_in {Q : Nat → Prop} : ∀ g off, sl0.A = some ⟨g, off, none⟩ → Q g := fun _ _ e => by cases e
end Mur
namespace Mur
open Go Go.RowKit Wk
def fieldsC : Array (Nat × Nat) := #[(0, 32), (32, 1), (33, 1), (34, 1), (35, 1)]
end Mur
namespace Go.Proofs.YtgbadghjnpbiaaaGreatDoor
open Go.RowKit Wk
open Mur (b8s claimC z32 updC)
set_option maxRecDepth 100000
theorem wfU {n : Nat} (h : n < 18446744073709551616) : (Lit.int .u64 ((n : Nat) : Int)).wf = true := by
 have h3 : IntKind.u64.min = 0 := by decide
 have h4 : IntKind.u64.max = 18446744073709551615 := by decide
 simp only [Lit.wf, h3, h4, Bool.and_eq_true, decide_eq_true_eq]
 omega
theorem wf8 (n : UInt8) : (Lit.int .u8 ((n.toNat : Nat) : Int)).wf = true := by
 have h3 : IntKind.u8.min = 0 := by decide
 have h4 : IntKind.u8.max = 255 := by decide
 have := n.toNat_lt
 simp only [Lit.wf, h3, h4, Bool.and_eq_true, decide_eq_true_eq]
 omega
theorem built_claim {k : List UInt8} (hk : k.length = 32) (n : Int) : Program.built Tryz.prog 33 [(1, .int .i64 n), (0, .agg (b8s k).toArray)] = some (claimC k n 0 0 false).toArray := by
 refine (show Program.built Tryz.prog 33 [(1, .int .i64 n), (0, .agg (b8s k).toArray)] = Instr.fill (fun i => Mur.fieldsC[i]?) (claimC z32 0 0 0 false).toArray [(1, .int .i64 n), (0, .agg (b8s k).toArray)] from by kernel_rfl).trans ?_
 refine Mur.fill_part (off := 32) (size := 1) (vs := [.int .i64 n]) rfl rfl rfl (by rw [Mur.claimC_length rfl]; omega) ?_
 have e2 : splice (claimC z32 0 0 0 false) 32 [.int .i64 n] = claimC z32 n 0 0 false := by
  have := Mur.splice_mid (A := b8s z32) (B := [Value.int .i64 0]) (C := [.int .u64 0, .int .u64 0, .bool false]) (vs := [Value.int .i64 n]) (off := 32) rfl rfl
  simpa [claimC] using this
 rw [e2]
 refine Mur.fill_part (off := 0) (size := 32) (vs := b8s k) rfl rfl (by rw [Mur.b8s_length, hk]) (by rw [Mur.claimC_length rfl]; omega) ?_
 have e : splice (claimC z32 n 0 0 false) 0 (b8s k) = claimC k n 0 0 false := Mur.splice_mid (A := []) (B := b8s z32) (vs := b8s k) (off := 0) rfl (by rw [Mur.b8s_length, Mur.b8s_length, hk]; rfl)
 rw [e]
 rfl
section
variable {ck ck' : List UInt8} {cn cn' : Int} {ci ci' cc cc' : Nat} {cg cg' : Bool}
theorem keyLits_claim (hk : ck.length = 32) (hn : (Lit.int .i64 cn).wf = true) (hi : ci < 18446744073709551616) (hc : cc < 18446744073709551616) : Tryz.prog.keyLits 3 33 (claimC ck cn ci cc cg) = some (litsD ck ++ [Lit.int .i64 cn, Lit.int .u64 ((ci : Nat) : Int), Lit.int .u64 ((cc : Nat) : Int), Lit.bool cg]) := by
 have hc0 : Tryz.prog.cellsOf 33 = 36 := by kernel_rfl
 have c1 : Tryz.prog.cellsOf 28 = 32 := by kernel_rfl
 have c2 : Tryz.prog.cellsOf 3 = 1 := by kernel_rfl
 have c3 : Tryz.prog.cellsOf 23 = 1 := by kernel_rfl
 have c4 : Tryz.prog.cellsOf 4 = 1 := by kernel_rfl
 have hl : (b8s ck).length = 32 := by rw [Mur.b8s_length, hk]
 have e1 : ((claimC ck cn ci cc cg).drop 0).take 32 = b8s ck := by
  show (b8s ck ++ _).take 32 = _
  rw [List.take_left' hl]
 have ed : ∀ i, (claimC ck cn ci cc cg).drop (32 + i) = ([.int .i64 cn, .int .u64 ((ci : Nat) : Int), .int .u64 ((cc : Nat) : Int), .bool cg] : List Value).drop i := fun i => by
  rw [← List.drop_drop]
  show ((b8s ck ++ _).drop 32).drop i = _
  rw [List.drop_left' hl]
 have e2 : ((claimC ck cn ci cc cg).drop 32).take 1 = [.int .i64 cn] := by rw [ed 0]; rfl
 have e3 : ((claimC ck cn ci cc cg).drop 33).take 1 = [.int .u64 ((ci : Nat) : Int)] := by rw [ed 1]; rfl
 have e4 : ((claimC ck cn ci cc cg).drop 34).take 1 = [.int .u64 ((cc : Nat) : Int)] := by rw [ed 2]; rfl
 have e5 : ((claimC ck cn ci cc cg).drop 35).take 1 = [.bool cg] := by rw [ed 3]; rfl
 have l1 := Mur.keyLits_dig digT ck hk
 have l2 : Tryz.prog.keyLits 2 3 [.int .i64 cn] = some [.int .i64 cn] := by
  unfold Program.keyLits
  simp only [Tryz.underlying3]
  exact if_pos ⟨trivial, hn⟩
 have l3 : ∀ n : Nat, n < 18446744073709551616 → Tryz.prog.keyLits 2 23 [.int .u64 ((n : Nat) : Int)] = some [.int .u64 ((n : Nat) : Int)] := fun n h => by
  unfold Program.keyLits
  simp only [Tryz.underlying23]
  exact if_pos ⟨trivial, wfU h⟩
 have l4 : Tryz.prog.keyLits 2 4 [.bool cg] = some [.bool cg] := by
  unfold Program.keyLits
  simp only [Tryz.underlying4]
 unfold Program.keyLits
 simp only [Tryz.underlying33]
 rw [if_pos ⟨by rw [Mur.claimC_length hk, hc0], by decide +kernel⟩]
 simp only [List.mapM_cons, List.mapM_nil, c1, c2, c3, c4, e1, e2, e3, e4, e5, l1, l2, l3 _ hi, l3 _ hc, l4]
 simp [litsD]
theorem claim_lits (hk : ck.length = 32) (hk' : ck'.length = 32) : litsD ck ++ [Lit.int .i64 cn, Lit.int .u64 ((ci : Nat) : Int), Lit.int .u64 ((cc : Nat) : Int), Lit.bool cg] = litsD ck' ++ [Lit.int .i64 cn', Lit.int .u64 ((ci' : Nat) : Int), Lit.int .u64 ((cc' : Nat) : Int), Lit.bool cg'] ↔ ck = ck' ∧ cn = cn' ∧ ci = ci' ∧ cc = cc' ∧ cg = cg' := by
 constructor
 ·intro h
  have h1 := List.append_inj h (by rw [litsD_length, litsD_length])
  have h2 := h1.2
  simp only [List.cons.injEq, Lit.int.injEq, Lit.bool.injEq, true_and, and_true] at h2
  exact ⟨(litsD_inj hk hk').1 h1.1, h2.1, by omega, by omega, h2.2.2.2⟩
 ·rintro ⟨rfl, rfl, rfl, rfl, rfl⟩
  rfl
theorem quiet_claim : Tryz.prog.eqGuardType Tryz.prog.depth 33 = false := by kernel_rfl
variable {w : World} {a : Act} {o : Oper}
theorem eql_claim (hk : ck.length = 32) (hk' : ck'.length = 32) (hn : (Lit.int .i64 cn).wf = true) (hn' : (Lit.int .i64 cn').wf = true) (hi : ci < 18446744073709551616) (hi' : ci' < 18446744073709551616) (hc : cc < 18446744073709551616) (hc' : cc' < 18446744073709551616) (w : World) :
  (Op.equalIn 10000 33 (.agg (claimC ck cn ci cc cg).toArray) (.agg (claimC ck' cn' ci' cc' cg').toArray)).run Tryz.prog w = .ok (decide (ck = ck' ∧ cn = cn' ∧ ci = ci' ∧ cc = cc' ∧ cg = cg')) w := by
 have hf : ∀ {a : List UInt8} {m : Int} {i j : Nat} {b : Bool}, a.length = 32 → (Value.agg (claimC a m i j b).toArray).formed Tryz.prog 33 = true := by
  intro a m i j b h1
  have hc : Tryz.prog.cellsOf 33 = 36 := by kernel_rfl
  simp [Value.formed, Tryz.underlying33, hc, Mur.claimC_length h1]
 obtain ⟨b, hb, hiff⟩ := run_equalIn_deep (P := Tryz.prog) 9997 3 33 (by kernel_rfl) w 3 3 (.agg (claimC ck cn ci cc cg).toArray) (.agg (claimC ck' cn' ci' cc' cg').toArray) _ _ (hf hk) (hf hk') (keyLits_claim hk hn hi hc) (keyLits_claim hk' hn' hi' hc')
 rw [claim_lits hk hk'] at hiff
 rw [show (10000 : Nat) = 9997 + 3 from rfl, hb]
 congr 1
 by_cases e : ck = ck' ∧ cn = cn' ∧ ci = ci' ∧ cc = cc' ∧ cg = cg'
 ·rw [decide_eq_true e]; exact hiff.2 e
 ·rw [decide_eq_false e]
  cases b
  ·rfl
  ·exact absurd (hiff.1 rfl) e
theorem run_eql_claim (x y : Operand) (ty : TypeId) (ho : o.op = .binOp .eql 33 x y ty) (hk : ck.length = 32) (hk' : ck'.length = 32) (hn : (Lit.int .i64 cn).wf = true) (hn' : (Lit.int .i64 cn').wf = true) (hi : ci < 18446744073709551616) (hi' : ci' < 18446744073709551616) (hc : cc < 18446744073709551616) (hc' : cc' < 18446744073709551616)
  (hx : a.eval x = .agg (claimC ck cn ci cc cg).toArray) (hy : a.eval y = .agg (claimC ck' cn' ci' cc' cg').toArray) : (execOp a.eval o).run Tryz.prog w = .ok (.value (.bool (decide (ck = ck' ∧ cn = cn' ∧ ci = ci' ∧ cc = cc' ∧ cg = cg')))) w := by
 unfold execOp
 simp only [ho, hx, hy, Sem.run_bind, run_eqGuard_agg w _ _ _ _ _ _ quiet_claim, Result.andThen_ok, run_eql_struct, Sem.run_pure, eql_claim hk hk' hn hn' hi hi' hc hc']
theorem run_neq_claim (x y : Operand) (ty : TypeId) (ho : o.op = .binOp .neq 33 x y ty) (hk : ck.length = 32) (hk' : ck'.length = 32) (hn : (Lit.int .i64 cn).wf = true) (hn' : (Lit.int .i64 cn').wf = true) (hi : ci < 18446744073709551616) (hi' : ci' < 18446744073709551616) (hc : cc < 18446744073709551616) (hc' : cc' < 18446744073709551616)
  (hx : a.eval x = .agg (claimC ck cn ci cc cg).toArray) (hy : a.eval y = .agg (claimC ck' cn' ci' cc' cg').toArray) : (execOp a.eval o).run Tryz.prog w = .ok (.value (.bool (!decide (ck = ck' ∧ cn = cn' ∧ ci = ci' ∧ cc = cc' ∧ cg = cg')))) w := by
 unfold execOp
 simp only [ho, hx, hy, Sem.run_bind, run_eqGuard_agg w _ _ _ _ _ _ quiet_claim, Result.andThen_ok, run_neq_struct, Sem.run_pure, eql_claim hk hk' hn hn' hi hi' hc hc']
end
-- updates
section
variable {u u' : Int × UInt8 × Nat}
theorem updC_len : (updC u).length = 3 := rfl
theorem keyLits_upd (hn : (Lit.int .i64 u.1).wf = true) (hi : u.2.2 < 18446744073709551616) : Tryz.prog.keyLits 3 61 (updC u) = some [Lit.int .i64 u.1, Lit.int .u8 ((u.2.1.toNat : Nat) : Int), Lit.int .u64 ((u.2.2 : Nat) : Int)] := by
 have hc0 : Tryz.prog.cellsOf 61 = 3 := by kernel_rfl
 have c2 : Tryz.prog.cellsOf 3 = 1 := by kernel_rfl
 have c3 : Tryz.prog.cellsOf 23 = 1 := by kernel_rfl
 have c4 : Tryz.prog.cellsOf 5 = 1 := by kernel_rfl
 have e2 : ((updC u).drop 0).take 1 = [.int .i64 u.1] := rfl
 have e3 : ((updC u).drop 1).take 1 = [.int .u8 ((u.2.1.toNat : Nat) : Int)] := rfl
 have e4 : ((updC u).drop 2).take 1 = [.int .u64 ((u.2.2 : Nat) : Int)] := rfl
 have l2 : Tryz.prog.keyLits 2 3 [.int .i64 u.1] = some [.int .i64 u.1] := by
  unfold Program.keyLits
  simp only [Tryz.underlying3]
  exact if_pos ⟨trivial, hn⟩
 have l3 : Tryz.prog.keyLits 2 23 [.int .u64 ((u.2.2 : Nat) : Int)] = some [.int .u64 ((u.2.2 : Nat) : Int)] := by
  unfold Program.keyLits
  simp only [Tryz.underlying23]
  exact if_pos ⟨trivial, wfU hi⟩
 have l4 : Tryz.prog.keyLits 2 5 [.int .u8 ((u.2.1.toNat : Nat) : Int)] = some [.int .u8 ((u.2.1.toNat : Nat) : Int)] := by
  unfold Program.keyLits
  simp only [Tryz.underlying5]
  exact if_pos ⟨trivial, wf8 _⟩
 unfold Program.keyLits
 simp only [Tryz.underlying61]
 rw [if_pos ⟨by rw [updC_len, hc0], by decide +kernel⟩]
 simp only [List.mapM_cons, List.mapM_nil, c2, c3, c4, e2, e3, e4, l2, l3, l4]
 rfl
theorem upd_lits : [Lit.int .i64 u.1, Lit.int .u8 ((u.2.1.toNat : Nat) : Int), Lit.int .u64 ((u.2.2 : Nat) : Int)] = [Lit.int .i64 u'.1, Lit.int .u8 ((u'.2.1.toNat : Nat) : Int), Lit.int .u64 ((u'.2.2 : Nat) : Int)] ↔ u = u' := by
 constructor
 ·intro h
  simp only [List.cons.injEq, Lit.int.injEq, true_and, and_true] at h
  obtain ⟨h1, h2, h3⟩ := h
  obtain ⟨a, b, c⟩ := u
  obtain ⟨a', b', c'⟩ := u'
  simp only at h1 h2 h3
  obtain rfl : b = b' := UInt8.toNat_inj.1 (by omega)
  obtain rfl : c = c' := by omega
  rw [h1]
 ·rintro rfl
  rfl
theorem quiet_upd : Tryz.prog.eqGuardType Tryz.prog.depth 61 = false := by kernel_rfl
variable {w : World} {a : Act} {o : Oper}
theorem eql_upd (hn : (Lit.int .i64 u.1).wf = true) (hn' : (Lit.int .i64 u'.1).wf = true) (hi : u.2.2 < 18446744073709551616) (hi' : u'.2.2 < 18446744073709551616) (w : World) :
  (Op.equalIn 10000 61 (.agg (updC u).toArray) (.agg (updC u').toArray)).run Tryz.prog w = .ok (decide (u = u')) w := by
 have hf : ∀ {v : Int × UInt8 × Nat}, (Value.agg (updC v).toArray).formed Tryz.prog 61 = true := by
  intro v
  have hc : Tryz.prog.cellsOf 61 = 3 := by kernel_rfl
  simp [Value.formed, Tryz.underlying61, hc, updC_len]
 obtain ⟨b, hb, hiff⟩ := run_equalIn_deep (P := Tryz.prog) 9997 3 61 (by kernel_rfl) w 3 3 (.agg (updC u).toArray) (.agg (updC u').toArray) _ _ hf hf (keyLits_upd hn hi) (keyLits_upd hn' hi')
 rw [upd_lits] at hiff
 rw [show (10000 : Nat) = 9997 + 3 from rfl, hb]
 congr 1
 by_cases e : u = u'
 ·rw [decide_eq_true e]; exact hiff.2 e
 ·rw [decide_eq_false e]
  cases b
  ·rfl
  ·exact absurd (hiff.1 rfl) e
theorem run_neq_upd (x y : Operand) (ty : TypeId) (ho : o.op = .binOp .neq 61 x y ty) (hn : (Lit.int .i64 u.1).wf = true) (hn' : (Lit.int .i64 u'.1).wf = true) (hi : u.2.2 < 18446744073709551616) (hi' : u'.2.2 < 18446744073709551616)
  (hx : a.eval x = .agg (updC u).toArray) (hy : a.eval y = .agg (updC u').toArray) : (execOp a.eval o).run Tryz.prog w = .ok (.value (.bool (!decide (u = u')))) w := by
 unfold execOp
 simp only [ho, hx, hy, Sem.run_bind, run_eqGuard_agg w _ _ _ _ _ _ quiet_upd, Result.andThen_ok, run_neq_struct, Sem.run_pure, eql_upd hn hn' hi hi']
end
end Go.Proofs.YtgbadghjnpbiaaaGreatDoor
namespace Mur
open Go Go.RowKit Wk
section
variable {P : Program}
theorem run_neq_dg {T e : TypeId} (h : DigT P T e) (d d' : List UInt8) (hd : d.length = 32) (hd' : d'.length = 32) (w : World) (x y : Operand) (ty : TypeId) {a : Act} {o : Oper} (ho : o.op = .binOp .neq T x y ty)
  (hx : a.eval x = .agg (b8s d).toArray) (hy : a.eval y = .agg (b8s d').toArray) : (execOp a.eval o).run P w = .ok (.value (.bool (!decide (d = d')))) w := by
 have hf : ∀ x : List UInt8, x.length = 32 → (Value.agg (b8s x).toArray).formed P T = true := by
  intro x hx
  simp [Value.formed, h.ty, h.ct, b8s_length, hx]
 obtain ⟨r, hr, hiff⟩ := run_equalIn_deep (P := P) 9998 2 T h.key w 2 2 (.agg (b8s d).toArray) (.agg (b8s d').toArray) _ _ (hf d hd) (hf d' hd') (keyLits_dig h d hd) (keyLits_dig h d' hd')
 rw [lits_inj hd hd'] at hiff
 have hr' : r = decide (d = d') := by
  by_cases e : d = d'
  ·rw [decide_eq_true e]; exact hiff.2 e
  ·rw [decide_eq_false e]
   cases r
   ·rfl
   ·exact absurd (hiff.1 rfl) e
 subst hr'
 unfold execOp
 simp only [ho, hx, hy, Sem.run_bind, run_eqGuard_agg w _ _ _ _ _ _ h.quiet, Result.andThen_ok, run_neq_struct, Sem.run_pure]
 rw [show (10000 : Nat) = 9998 + 2 from rfl, hr]
 rfl
end
section
variable {α : Type}
theorem take_sn {l : List α} {i : Nat} {y : α} (h : l[i]? = some y) : l.take (i + 1) = l.take i ++ [y] := by
 obtain ⟨h1, rfl⟩ := List.getElem?_eq_some_iff.1 h
 exact List.take_succ_eq_append_getElem h1
theorem map_at {β : Type} {l : List α} {i : Nat} {y : α} (f : α → β) (h : l[i]? = some y) : (l.map f)[i]? = some (f y) := by rw [List.getElem?_map, h]; rfl
end
theorem att_sized (L : List Att) : Sized 97 (L.map attL) := fun c hc => by
 obtain ⟨r, _, rfl⟩ := List.mem_map.1 hc
 exact ⟨attL_len r, attC_one⟩
theorem SlA.slR {w : World} {A : Option Addr} {n : Nat} {L : List Att} (h : SlA w A n L) : SlR w 97 A n (L.map attL) := ⟨by rw [List.length_map, h.len], att_sized L, by rw [attL_flat]; exact h.sl⟩
theorem frm_eq {f g : Frm} (h0 : ((f.kind.toNat : Nat) : Int) = ((g.kind.toNat : Nat) : Int)) (h1 : f.frm = g.frm) (h2 : f.dst = g.dst) (h3 : f.pTo = g.pTo) (h4 : ((f.pKind.toNat : Nat) : Int) = ((g.pKind.toNat : Nat) : Int)) (h5 : ((f.pSeq : Nat) : Int) = ((g.pSeq : Nat) : Int)) (h6 : f.pAbout = g.pAbout) (h7 : f.pUpd = g.pUpd)
  (h8 : ((f.gos.kind.toNat : Nat) : Int) = ((g.gos.kind.toNat : Nat) : Int)) (h9 : f.gos.pre = g.gos.pre) (h10 : f.gos.sum = g.gos.sum) (h11 : f.gos.cnt = g.gos.cnt) (h12 : f.gos.items = g.gos.items) (h13 : f.gos.ans = g.gos.ans)
  (h14 : f.cKey = g.cKey ∧ f.cNode = g.cNode ∧ f.cInc = g.cInc ∧ f.cCnt = g.cCnt ∧ f.cGone = g.cGone) (h15 : f.att = g.att) (h16 : f.root = g.root) (h17 : f.chunk = g.chunk) (h18 : f.byt = g.byt) (h19 : f.prf = g.prf) : f = g := by
 obtain ⟨k, a, b, c, d, e, p, q, ⟨m1, m2, m3, m4, m5, m6⟩, x, y, z, u, v, t, r, s, i, j⟩ := f
 obtain ⟨k', a', b', c', d', e', p', q', ⟨m1', m2', m3', m4', m5', m6'⟩, x', y', z', u', v', t', r', s', i', j'⟩ := g
 simp only at h0 h1 h2 h3 h4 h5 h6 h7 h8 h9 h10 h11 h12 h13 h14 h15 h16 h17 h18 h19
 obtain rfl : k = k' := UInt8.toNat_inj.1 (by omega)
 obtain rfl : d = d' := UInt8.toNat_inj.1 (by omega)
 obtain rfl : m1 = m1' := UInt8.toNat_inj.1 (by omega)
 obtain rfl : e = e' := by omega
 obtain ⟨rfl, rfl, rfl, rfl, rfl⟩ := h14
 subst h1 h2 h3 h6 h7 h9 h10 h11 h12 h13 h15 h16 h17 h18 h19
 rfl
end Mur
namespace Mur
open Go Go.RowKit Wk
def bareZ (f : Frm) (z : Zs) : Zs :=
 if f.kind = 1 then ⟨z.u, sl0, sl0, sl0, sl0⟩ else if f.kind = 2 then ⟨sl0, z.p, z.i, sl0, sl0⟩ else if f.kind = 6 then ⟨sl0, sl0, sl0, z.y, z.f⟩ else zs0
section
variable {f : Frm} {z : Zs}
theorem bareM_1 (h : f.kind = 1) : bareM f = { headM f.kind f.frm f.dst with pTo := f.pTo, pKind := f.pKind, pSeq := f.pSeq, pAbout := f.pAbout, pUpd := f.pUpd } := if_pos h
theorem bareM_2 (h : f.kind = 2) : bareM f = { headM f.kind f.frm f.dst with gos := f.gos } := by
 unfold bareM
 rw [if_neg (by rw [h]; decide), if_pos h]
theorem bareM_3 (h : f.kind = 3) : bareM f = { headM f.kind f.frm f.dst with cKey := f.cKey, cNode := f.cNode, cInc := f.cInc, cCnt := f.cCnt, cGone := f.cGone } := by
 unfold bareM
 rw [if_neg (by rw [h]; decide), if_neg (by rw [h]; decide), if_pos h]
theorem bareM_4 (h : f.kind = 4) : bareM f = { headM f.kind f.frm f.dst with att := f.att } := by
 unfold bareM
 rw [if_neg (by rw [h]; decide), if_neg (by rw [h]; decide), if_neg (by rw [h]; decide), if_pos h]
theorem bareM_5 (h : f.kind = 5) : bareM f = { headM f.kind f.frm f.dst with root := f.root, chunk := f.chunk } := by
 unfold bareM
 rw [if_neg (by rw [h]; decide), if_neg (by rw [h]; decide), if_neg (by rw [h]; decide), if_neg (by rw [h]; decide), if_pos h]
theorem bareM_6 (h : f.kind = 6) : bareM f = { headM f.kind f.frm f.dst with root := f.root, chunk := f.chunk, byt := f.byt, prf := f.prf } := by
 unfold bareM
 rw [if_neg (by rw [h]; decide), if_neg (by rw [h]; decide), if_neg (by rw [h]; decide), if_neg (by rw [h]; decide), if_neg (by rw [h]; decide), if_pos h]
theorem bareM_0 (h1 : ¬ f.kind = 1) (h2 : ¬ f.kind = 2) (h3 : ¬ f.kind = 3) (h4 : ¬ f.kind = 4) (h5 : ¬ f.kind = 5) (h6 : ¬ f.kind = 6) : bareM f = headM f.kind f.frm f.dst := by
 unfold bareM
 rw [if_neg h1, if_neg h2, if_neg h3, if_neg h4, if_neg h5, if_neg h6]
theorem bareZ_1 (h : f.kind = 1) : bareZ f z = ⟨z.u, sl0, sl0, sl0, sl0⟩ := if_pos h
theorem bareZ_2 (h : f.kind = 2) : bareZ f z = ⟨sl0, z.p, z.i, sl0, sl0⟩ := by
 unfold bareZ
 rw [if_neg (by rw [h]; decide), if_pos h]
theorem bareZ_6 (h : f.kind = 6) : bareZ f z = ⟨sl0, sl0, sl0, z.y, z.f⟩ := by
 unfold bareZ
 rw [if_neg (by rw [h]; decide), if_neg (by rw [h]; decide), if_pos h]
theorem bareZ_0 (h1 : ¬ f.kind = 1) (h2 : ¬ f.kind = 2) (h6 : ¬ f.kind = 6) : bareZ f z = zs0 := by
 unfold bareZ
 rw [if_neg h1, if_neg h2, if_neg h6]
theorem bareZ_3 (h : f.kind = 3) : bareZ f z = zs0 := bareZ_0 (by rw [h]; decide) (by rw [h]; decide) (by rw [h]; decide)
theorem bareZ_4 (h : f.kind = 4) : bareZ f z = zs0 := bareZ_0 (by rw [h]; decide) (by rw [h]; decide) (by rw [h]; decide)
theorem bareZ_5 (h : f.kind = 5) : bareZ f z = zs0 := bareZ_0 (by rw [h]; decide) (by rw [h]; decide) (by rw [h]; decide)
theorem lies_bare {w : World} (h : LiesF w z f) : LiesF w (bareZ f z) (bareM f) := by
 by_cases h1 : f.kind = 1
 ·rw [bareM_1 h1, bareZ_1 h1]
  exact ⟨h.upd, byt_nil0 w none, SlA.nil w none, byt_nil0 w none, slR_nil w 32 none, h.nu, SlN.zero, SlN.zero, SlN.zero, SlN.zero⟩
 by_cases h2 : f.kind = 2
 ·rw [bareM_2 h2, bareZ_2 h2]
  exact ⟨slR_nil w 3 none, h.pre, h.its, byt_nil0 w none, slR_nil w 32 none, SlN.zero, h.np, h.ni, SlN.zero, SlN.zero⟩
 by_cases h6 : f.kind = 6
 ·rw [bareM_6 h6, bareZ_6 h6]
  exact ⟨slR_nil w 3 none, byt_nil0 w none, SlA.nil w none, h.byt, h.prf, SlN.zero, SlN.zero, SlN.zero, h.ny, h.nf⟩
 rw [bareZ_0 h1 h2 h6]
 by_cases h3 : f.kind = 3
 ·rw [bareM_3 h3]
  exact lies_none rfl rfl rfl rfl rfl
 by_cases h4 : f.kind = 4
 ·rw [bareM_4 h4]
  exact lies_none rfl rfl rfl rfl rfl
 by_cases h5 : f.kind = 5
 ·rw [bareM_5 h5]
  exact lies_none rfl rfl rfl rfl rfl
 rw [bareM_0 h1 h2 h3 h4 h5 h6]
 exact lies_none rfl rfl rfl rfl rfl
theorem frmIn_bare (h : FrmIn f) : FrmIn (bareM f) := by
 have hh := frmIn_head f.kind h.frm h.dst
 by_cases h1 : f.kind = 1
 ·rw [bareM_1 h1]
  exact ⟨⟨h.ok.seq, zN, zN, h.ok.upd, rfl, rfl, rfl, fun _ q => (by cases q)⟩, h.frm, h.dst, h.pTo, h.pAb, h.upd, zI, zI, zI⟩
 by_cases h2 : f.kind = 2
 ·rw [bareM_2 h2]
  exact ⟨⟨zN, zN, zN, fun _ q => (by cases q), h.ok.sum, rfl, rfl, fun _ q => (by cases q)⟩, h.frm, h.dst, zI, zI, fun _ q => (by cases q), h.cnt, zI, zI⟩
 by_cases h3 : f.kind = 3
 ·rw [bareM_3 h3]
  exact ⟨⟨zN, h.ok.inc, h.ok.cnt, fun _ q => (by cases q), rfl, h.ok.key, rfl, fun _ q => (by cases q)⟩, h.frm, h.dst, zI, zI, fun _ q => (by cases q), zI, h.cNo, zI⟩
 by_cases h4 : f.kind = 4
 ·rw [bareM_4 h4]
  exact ⟨⟨zN, zN, zN, fun _ q => (by cases q), rfl, rfl, rfl, fun _ q => (by cases q)⟩, h.frm, h.dst, zI, zI, fun _ q => (by cases q), zI, zI, zI⟩
 by_cases h5 : f.kind = 5
 ·rw [bareM_5 h5]
  exact ⟨⟨zN, zN, zN, fun _ q => (by cases q), rfl, rfl, h.ok.root, fun _ q => (by cases q)⟩, h.frm, h.dst, zI, zI, fun _ q => (by cases q), zI, zI, h.chk⟩
 by_cases h6 : f.kind = 6
 ·rw [bareM_6 h6]
  exact ⟨⟨zN, zN, zN, fun _ q => (by cases q), rfl, rfl, h.ok.root, h.ok.prf⟩, h.frm, h.dst, zI, zI, fun _ q => (by cases q), zI, zI, h.chk⟩
 rw [bareM_0 h1 h2 h3 h4 h5 h6]
 exact hh
end
def goodU (u : Int × UInt8 × Nat) : Prop := (0 ≤ u.1 ∧ u.1 < 16) ∧ (1 ≤ u.2.1.toNat ∧ u.2.1.toNat ≤ 3) ∧ u.2.2 ≤ 1099511627776
end Mur
namespace Go.Proofs.YtgbadghjnpbiaaaGreatDoor
open Go.RowKit Wk
theorem run_eql_bool {w : World} {a : Act} {o : Oper} (x y : Operand) (ty : TypeId) (ho : o.op = .binOp .eql 4 x y ty) (p q : Bool) (hx : a.eval x = .bool p) (hy : a.eval y = .bool q) : (execOp a.eval o).run Tryz.prog w = .ok (.value (.bool (decide (p = q)))) w := by
 have key : (binOp .eql 4 (.bool p) (.bool q)).run Tryz.prog w = .ok (.bool (decide (p = q))) w := by
  cases p <;> cases q <;> kernel_rfl
 have hg : (eqGuard .eql 4 x y (.bool p) (.bool q)).run Tryz.prog w = .ok () w := by
  cases p <;> cases q <;> kernel_rfl
 unfold execOp
 simp only [ho, hx, hy]
 simp only [Sem.run_bind, Sem.run_pure, hg, Result.andThen_ok, key]
end Go.Proofs.YtgbadghjnpbiaaaGreatDoor
namespace Mur
open Go Go.RowKit
def mayK1 (f : Frm) : Prop := f.pTo = f.dst ∧ (1 ≤ f.pKind.toNat ∧ f.pKind.toNat ≤ 3) ∧ (0 ≤ f.pAbout ∧ f.pAbout < 16) ∧ f.pUpd.length ≤ 8 ∧ ∀ u, u ∈ f.pUpd → goodU u
def mayK2 (f : Frm) : Prop := mayM f.gos
def mayK3 (f : Frm) : Prop := f.cNode = f.frm ∧ f.cInc ≤ 1099511627776 ∧ f.cCnt ≤ 1099511627776
def mayK4 (f : Frm) : Prop := may f.att.n
def mayK5 (f : Frm) : Prop := 0 ≤ f.chunk ∧ f.chunk < 100
def mayK6 (f : Frm) : Prop := (0 ≤ f.chunk ∧ f.chunk < 100) ∧ f.byt.length ≤ 64 ∧ f.prf.length ≤ 10
section
variable {f : Frm} (h : nodeM f.frm ∧ nodeM f.dst ∧ f.frm ≠ f.dst ∧ f = bareM f)
include h
theorem mayFM_1 (k : f.kind = 1) : mayFM f ↔ mayK1 f := by
 refine ⟨fun q => ?_, fun q => ⟨h.1, h.2.1, h.2.2.1, h.2.2.2, .inl ⟨k, q⟩⟩⟩
 rcases q.2.2.2.2 with e | e | e | e | e | e
 ·exact e.2
 all_goals (rw [k] at e; exact absurd e.1 (by decide))
theorem mayFM_2 (k : f.kind = 2) : mayFM f ↔ mayK2 f := by
 refine ⟨fun q => ?_, fun q => ⟨h.1, h.2.1, h.2.2.1, h.2.2.2, .inr (.inl ⟨k, q⟩)⟩⟩
 rcases q.2.2.2.2 with e | e | e | e | e | e
 ·rw [k] at e; exact absurd e.1 (by decide)
 ·exact e.2
 all_goals (rw [k] at e; exact absurd e.1 (by decide))
theorem mayFM_3 (k : f.kind = 3) : mayFM f ↔ mayK3 f := by
 refine ⟨fun q => ?_, fun q => ⟨h.1, h.2.1, h.2.2.1, h.2.2.2, .inr (.inr (.inl ⟨k, q⟩))⟩⟩
 rcases q.2.2.2.2 with e | e | e | e | e | e
 ·rw [k] at e; exact absurd e.1 (by decide)
 ·rw [k] at e; exact absurd e.1 (by decide)
 ·exact e.2
 all_goals (rw [k] at e; exact absurd e.1 (by decide))
theorem mayFM_4 (k : f.kind = 4) : mayFM f ↔ mayK4 f := by
 refine ⟨fun q => ?_, fun q => ⟨h.1, h.2.1, h.2.2.1, h.2.2.2, .inr (.inr (.inr (.inl ⟨k, q⟩)))⟩⟩
 rcases q.2.2.2.2 with e | e | e | e | e | e
 ·rw [k] at e; exact absurd e.1 (by decide)
 ·rw [k] at e; exact absurd e.1 (by decide)
 ·rw [k] at e; exact absurd e.1 (by decide)
 ·exact e.2
 all_goals (rw [k] at e; exact absurd e.1 (by decide))
theorem mayFM_5 (k : f.kind = 5) : mayFM f ↔ mayK5 f := by
 refine ⟨fun q => ?_, fun q => ⟨h.1, h.2.1, h.2.2.1, h.2.2.2, .inr (.inr (.inr (.inr (.inl ⟨k, q⟩))))⟩⟩
 rcases q.2.2.2.2 with e | e | e | e | e | e
 ·rw [k] at e; exact absurd e.1 (by decide)
 ·rw [k] at e; exact absurd e.1 (by decide)
 ·rw [k] at e; exact absurd e.1 (by decide)
 ·rw [k] at e; exact absurd e.1 (by decide)
 ·exact e.2
 all_goals (rw [k] at e; exact absurd e.1 (by decide))
theorem mayFM_6 (k : f.kind = 6) : mayFM f ↔ mayK6 f := by
 refine ⟨fun q => ?_, fun q => ⟨h.1, h.2.1, h.2.2.1, h.2.2.2, .inr (.inr (.inr (.inr (.inr ⟨k, q⟩))))⟩⟩
 rcases q.2.2.2.2 with e | e | e | e | e | e
 ·rw [k] at e; exact absurd e.1 (by decide)
 ·rw [k] at e; exact absurd e.1 (by decide)
 ·rw [k] at e; exact absurd e.1 (by decide)
 ·rw [k] at e; exact absurd e.1 (by decide)
 ·rw [k] at e; exact absurd e.1 (by decide)
 ·exact e.2
end
end Mur
namespace Mur
open Go Go.RowKit Wk
def enc3 (u : Int × UInt8 × Nat) : List UInt8 := formN (u64n u.1) ++ formN u.2.1.toNat ++ formN u.2.2
theorem updC_all (u : Int × UInt8 × Nat) : (updC u).toArray.all (·.oneCell') = true := Array.all_eq_true_iff_forall_mem.2 fun v hv => updC_one u v (by simpa using hv)
theorem updC_size (u : Int × UInt8 × Nat) : (updC u).toArray.size = 3 := rfl
theorem enc3_len {u : Int × UInt8 × Nat} (h : u.2.2 < 2 ^ 64) : (enc3 u).length ≤ 27 := by
 have h1 := formN_len (u64n_lt u.1)
 have h2 := formN_len (n := u.2.1.toNat) (by have := u.2.1.toNat_lt; omega)
 have h3 := formN_len h
 unfold enc3
 rw [List.length_append, List.length_append]
 omega
theorem flat_sn {α : Type} (f : α → List UInt8) {l : List α} {i : Nat} {x : α} (h : l[i]? = some x) : ((l.take (i + 1)).map f).flatten = ((l.take i).map f).flatten ++ f x := by
 rw [take_sn h, List.map_append, List.flatten_append]
 simp
theorem u64n_to {i : Int} (h : 0 ≤ i) (h2 : i < 9223372036854775808) : u64n i = i.toNat := by
 unfold u64n
 have : IntKind.u64.wrap i = i := by
  show i % 18446744073709551616 = i
  omega
 rw [this]
theorem u64n_of {n : Nat} (h : n < 9223372036854775808) : u64n ((n : Nat) : Int) = n := by
 rw [u64n_to (by omega) (by omega)]
 rfl
section
variable {f : Frm} (h : mayFM f)
include h
theorem headB : formN (u64n ((f.kind.toNat : Nat) : Int)) ++ formN (u64n f.frm) ++ formN (u64n f.dst) ++ encC (conM f) = bodyFM f := by
 have e := kind_con h
 obtain ⟨⟨a1, a2⟩, ⟨b1, b2⟩, _⟩ := h
 have hk := f.kind.toNat_lt
 rw [u64n_of (by omega), u64n_to a1 (by omega), u64n_to b1 (by omega)]
 unfold bodyFM bodyF
 rw [e]
 show _ = formN f.kind.toNat ++ (formN f.frm.toNat ++ (formN f.dst.toNat ++ encC (conM f)))
 simp only [List.append_assoc]
theorem bodyB_1 (k : f.kind = 1) : formN (u64n ((f.kind.toNat : Nat) : Int)) ++ formN (u64n f.frm) ++ formN (u64n f.dst) ++ formN f.pKind.toNat ++ formN f.pSeq ++ formN (u64n f.pAbout) ++ (formN f.pUpd.length ++ (f.pUpd.map enc3).flatten) = bodyFM f := by
 have e : (conM f) = .probe f.pKind.toNat f.pSeq f.pAbout.toNat (f.pUpd.map fun u => ⟨u.1.toNat, u.2.1.toNat, u.2.2⟩) := if_pos k
 have hm : mayK1 f := (mayFM_1 ⟨h.1, h.2.1, h.2.2.1, h.2.2.2.1⟩ k).1 h
 rw [← headB h, e]
 have e2 : ((f.pUpd.map fun u => (⟨u.1.toNat, u.2.1.toNat, u.2.2⟩ : Upd)).map encU) = f.pUpd.map enc3 := by
  rw [List.map_map]
  refine List.map_congr_left fun u hu => ?_
  obtain ⟨⟨q1, q2⟩, _⟩ := hm.2.2.2.2 u hu
  show formN u.1.toNat ++ (formN u.2.1.toNat ++ formN u.2.2) = formN (u64n u.1) ++ formN u.2.1.toNat ++ formN u.2.2
  rw [u64n_to q1 (by omega), List.append_assoc]
 simp only [encC, e2, List.length_map, u64n_to hm.2.2.1.1 (by have := hm.2.2.1.2; omega), List.append_assoc]
theorem bodyB_2s (k : f.kind = 2) (g : f.gos.kind = 1) : formN (u64n ((f.kind.toNat : Nat) : Int)) ++ formN (u64n f.frm) ++ formN (u64n f.dst) ++ formN (u64n ((f.gos.kind.toNat : Nat) : Int)) ++ (formN f.gos.pre.length ++ f.gos.pre) ++ f.gos.sum ++ formN (u64n f.gos.cnt) = bodyFM f := by
 have e : (conM f) = .sum f.gos.pre f.gos.sum f.gos.cnt.toNat := by
  unfold conM
  rw [if_neg (by rw [k]; decide), if_pos k, if_pos g]
 have hm : mayM f.gos := (mayFM_2 ⟨h.1, h.2.1, h.2.2.1, h.2.2.2.1⟩ k).1 h
 rw [← headB h, e, u64n_to hm.2.1 (by have := hm.2.2.1; omega), g]
 have e1 : u64n (((1 : UInt8).toNat : Nat) : Int) = 1 := rfl
 simp only [encC, e1, List.append_assoc]
theorem bodyB_2i (k : f.kind = 2) (g : ¬ f.gos.kind = 1) : formN (u64n ((f.kind.toNat : Nat) : Int)) ++ formN (u64n f.frm) ++ formN (u64n f.dst) ++ formN (u64n ((f.gos.kind.toNat : Nat) : Int)) ++ (formN f.gos.pre.length ++ f.gos.pre) ++ (formN f.gos.items.length ++ (f.gos.items.map Att.raw).flatten) ++ formN (flagN f.gos.ans) = bodyFM f := by
 have e : (conM f) = .items f.gos.kind.toNat f.gos.pre f.gos.items f.gos.ans := by
  unfold conM
  rw [if_neg (by rw [k]; decide), if_pos k, if_neg g]
 have hk := f.gos.kind.toNat_lt
 rw [← headB h, e, u64n_of (n := f.gos.kind.toNat) (by omega)]
 simp only [encC, List.append_assoc]
theorem bodyB_3 (k : f.kind = 3) : formN (u64n ((f.kind.toNat : Nat) : Int)) ++ formN (u64n f.frm) ++ formN (u64n f.dst) ++ f.cKey ++ formN f.cInc ++ formN f.cCnt ++ formN (flagN f.cGone) = bodyFM f := by
 have e : (conM f) = .claim f.cKey f.cInc f.cCnt f.cGone := by
  unfold conM
  rw [if_neg (by rw [k]; decide), if_neg (by rw [k]; decide), if_pos k]
 rw [← headB h, e]
 simp only [encC, List.append_assoc]
theorem bodyB_4 (k : f.kind = 4) : formN (u64n ((f.kind.toNat : Nat) : Int)) ++ formN (u64n f.frm) ++ formN (u64n f.dst) ++ f.att.raw = bodyFM f := by
 have e : (conM f) = .result f.att := by
  unfold conM
  rw [if_neg (by rw [k]; decide), if_neg (by rw [k]; decide), if_neg (by rw [k]; decide), if_pos k]
 rw [← headB h, e]
 rfl
theorem bodyB_5 (k : f.kind = 5) : formN (u64n ((f.kind.toNat : Nat) : Int)) ++ formN (u64n f.frm) ++ formN (u64n f.dst) ++ f.root ++ formN (u64n f.chunk) = bodyFM f := by
 have e : (conM f) = .want f.root f.chunk.toNat := by
  unfold conM
  rw [if_neg (by rw [k]; decide), if_neg (by rw [k]; decide), if_neg (by rw [k]; decide), if_neg (by rw [k]; decide), if_pos k]
 have hm : mayK5 f := (mayFM_5 ⟨h.1, h.2.1, h.2.2.1, h.2.2.2.1⟩ k).1 h
 rw [← headB h, e, u64n_to hm.1 (by have := hm.2; omega)]
 simp only [encC, List.append_assoc]
theorem bodyB_6 (k : f.kind = 6) : formN (u64n ((f.kind.toNat : Nat) : Int)) ++ formN (u64n f.frm) ++ formN (u64n f.dst) ++ f.root ++ formN (u64n f.chunk) ++ (formN f.byt.length ++ f.byt) ++ (formN f.prf.length ++ (f.prf.map fun x => x).flatten) = bodyFM f := by
 have e : (conM f) = .chunk f.root f.chunk.toNat f.byt f.prf := by
  unfold conM
  rw [if_neg (by rw [k]; decide), if_neg (by rw [k]; decide), if_neg (by rw [k]; decide), if_neg (by rw [k]; decide), if_neg (by rw [k]; decide)]
 have hm : mayK6 f := (mayFM_6 ⟨h.1, h.2.1, h.2.2.1, h.2.2.2.1⟩ k).1 h
 rw [← headB h, e, u64n_to hm.1.1 (by have := hm.1.2; omega)]
 simp only [encC, List.append_assoc]
theorem kind_may : 1 ≤ f.kind.toNat ∧ f.kind.toNat ≤ 6 := by
 rcases h.2.2.2.2 with e | e | e | e | e | e <;> (rw [e.1]; decide)
end
end Mur
namespace Mur
open Go Go.RowKit Wk
theorem newOr_own {B x : Nat} {S : List Nat} {v : Value} (h : x ∈ S ∨ B ≤ x) (h2 : ∀ g, v.ownBlock = some g → B ≤ g) : NewOr B S ([x] ++ blk v) := ⟨h, newOr_blk h2⟩
end Mur
namespace Mur
open Go Go.RowKit Wk
theorem slr_lt {w : World} {sz g off n : Nat} {A : Option Addr} {R : List (List Value)} (h : SlR w sz A n R) (hp : 0 < sz) (e : A = some ⟨g, off, none⟩) (hn : 0 < n) : g < w.heap.size := by
 obtain ⟨r, hr⟩ : ∃ r, R[0]? = some r := ⟨_, List.getElem?_eq_getElem (by rw [h.len]; exact hn)⟩
 obtain ⟨g2, off2, e2, hg⟩ := h.row hr hp
 rw [e] at e2
 cases e2
 have hl := (h.szd r (List.mem_of_getElem? hr)).1
 have := hg 0 r[0] (List.getElem?_eq_getElem (by omega))
 unfold World.cell? at this
 cases hh : w.heap[g]? with
 | none => simp [hh] at this
 | some o => exact (Array.getElem?_eq_some_iff.1 hh).1
theorem byt_blt {w : World} {g off n : Nat} {A : Option Addr} {l : List UInt8} (h : Byt w A n l) (e : A = some ⟨g, off, none⟩) (hn : 0 < n) : g < w.heap.size := by
 obtain ⟨g2, off2, e2, hc⟩ := h.2 hn
 rw [e] at e2
 cases e2
 have := hc 0 hn
 unfold World.cell? at this
 cases hh : w.heap[g]? with
 | none => simp [hh] at this
 | some o => exact (Array.getElem?_eq_some_iff.1 hh).1
theorem own8_none (w : World) (base e : Nat) : Own8 w base e none 0 0 [] := own8_nil w base e
end Mur
namespace Mur
open Go Go.RowKit Wk
section
variable {T : List UInt8 → List UInt8} {b d : List UInt8} {x : Fra} {at4 at5 : Nat} {bad4 : Bool}
theorem rd_bad (hl : b.length ≤ 2000) (hF : Step readF b 0 false at4 true x) : readAll T b = .form := by
 rcases hF.no rfl with h | h
 ·cases h
 ·exact readAll_none hl h
theorem rd_some (hl : b.length ≤ 2000) (hF : Step readF b 0 false at4 false x) : readAll T b = told T b (ofFra x) x.con.kind (b.drop at4) := readAll_some T hl (hF.ok rfl).2
theorem rd_un (hl : b.length ≤ 2000) (h4 : at4 ≤ b.length) (hF : Step readF b 0 false at4 false x) (hk : ¬ x.con.kind ≤ 4) (hn : at4 = b.length → ¬ mayFM (ofFra x)) : readAll T b = .form := by
 rw [rd_some hl hF]
 unfold told
 rw [if_neg]
 rintro ⟨h1, h2⟩
 rw [if_neg hk, List.length_drop] at h2
 exact hn (by omega) h1
theorem rd_un_ok (hl : b.length ≤ 2000) (hF : Step readF b 0 false at4 false x) (hk : ¬ x.con.kind ≤ 4) (ha : at4 = b.length) (hm : mayFM (ofFra x)) : readAll T b = .ok (ofFra x) := by
 rw [rd_some hl hF]
 unfold told
 rw [if_pos ⟨hm, by rw [if_neg hk, List.length_drop]; omega⟩, if_neg (fun q => hk q.1)]
theorem rd_S {at5 : Nat} {bad5 : Bool} (hD : Step (readS 32) b at4 bad4 at5 bad5 d) (h : bad5 = false) : bad4 = false ∧ b.drop at4 = d ++ b.drop at5 ∧ d.length = 32 := by
 obtain ⟨h1, h2⟩ := hD.ok h
 have h3 := (codecS 32).un _ _ _ h2
 exact ⟨h1, h3.1, h3.2⟩
theorem rd_tg_bad (hl : b.length ≤ 2000) (hF : Step readF b 0 false at4 bad4 x) (hk : x.con.kind ≤ 4) (hD : Step (readS 32) b at4 bad4 at5 true d) : readAll T b = .form := by
 cases bad4 with
 | true => exact rd_bad hl hF
 | false =>
  rcases hD.no rfl with h | h
  ·cases h
  ·rw [rd_some hl hF]
   unfold told
   rw [if_neg]
   rintro ⟨_, h2⟩
   rw [if_pos hk] at h2
   unfold readS at h
   rw [if_neg (by omega)] at h
   cases h
theorem rd_tg_no (hl : b.length ≤ 2000) (h5 : at5 ≤ b.length) (hF : Step readF b 0 false at4 bad4 x) (hk : x.con.kind ≤ 4) (hD : Step (readS 32) b at4 bad4 at5 false d) (hn : at5 = b.length → ¬ mayFM (ofFra x)) : readAll T b = .form := by
 obtain ⟨rfl, e, hd⟩ := rd_S hD rfl
 rw [rd_some hl hF]
 unfold told
 rw [if_neg]
 rintro ⟨h1, h2⟩
 rw [if_pos hk, e, List.length_append, hd, List.length_drop] at h2
 exact hn (by omega) h1
theorem rd_tg_may (hl : b.length ≤ 2000) (hF : Step readF b 0 false at4 bad4 x) (hk : x.con.kind ≤ 4) (hD : Step (readS 32) b at4 bad4 at5 false d) (ha : at5 = b.length) (hm : mayFM (ofFra x)) : bad4 = false ∧ told T b (ofFra x) x.con.kind (b.drop at4) = if d ≠ T (b.take at4) then .tag else .ok (ofFra x) := by
 obtain ⟨rfl, e, hd⟩ := rd_S hD rfl
 refine ⟨rfl, ?_⟩
 have e5 : b.drop at5 = [] := List.drop_of_length_le (by omega)
 rw [e5, List.append_nil] at e
 have e6 : b.length - 32 = at4 := by
  have := congrArg List.length e
  rw [List.length_drop] at this
  omega
 unfold told
 rw [if_pos ⟨hm, by rw [e, if_pos hk, hd]⟩, e, e6]
 by_cases h : d = T (b.take at4)
 ·rw [if_neg (fun q => q.2 h), if_neg (fun q => q h)]
 ·rw [if_pos ⟨hk, h⟩, if_pos h]
theorem rd_tg_tag (hl : b.length ≤ 2000) (hF : Step readF b 0 false at4 bad4 x) (hk : x.con.kind ≤ 4) (hD : Step (readS 32) b at4 bad4 at5 false d) (ha : at5 = b.length) (hm : mayFM (ofFra x)) (hd : ¬ d = T (b.take at4)) : readAll T b = .tag := by
 obtain ⟨rfl, h⟩ := rd_tg_may (T := T) hl hF hk hD ha hm
 rw [rd_some hl hF, h, if_pos hd]
theorem rd_tg_ok (hl : b.length ≤ 2000) (hF : Step readF b 0 false at4 bad4 x) (hk : x.con.kind ≤ 4) (hD : Step (readS 32) b at4 bad4 at5 false d) (ha : at5 = b.length) (hm : mayFM (ofFra x)) (hd : d = T (b.take at4)) : readAll T b = .ok (ofFra x) := by
 obtain ⟨rfl, h⟩ := rd_tg_may (T := T) hl hF hk hD ha hm
 rw [rd_some hl hF, h, if_neg (fun q => q hd)]
theorem rd_none {v f k : Nat} {bad1 : Bool} {at1 : Nat} (hl : b.length ≤ 2000) (h : Step (pSeq readK (pSeq readI readI)) b 0 false at1 bad1 (v, (f, k))) (hv : (UInt8.ofNat v).toNat < 1 ∨ 6 < (UInt8.ofNat v).toNat) : readAll T b = .form := by
 rcases h.fra_no hv with h1 | h1
 ·cases h1
 ·exact readAll_none hl h1
end
theorem may_head {k : UInt8} {a b : Int} (h : k.toNat < 1 ∨ 6 < k.toNat) : ¬ mayFM (headM k a b) := fun q => by
 have q2 : (k = 1 ∧ _) ∨ (k = 2 ∧ _) ∨ (k = 3 ∧ _) ∨ (k = 4 ∧ _) ∨ (k = 5 ∧ _) ∨ (k = 6 ∧ _) := q.2.2.2.2
 have e1 : (1 : UInt8).toNat = 1 := rfl
 have e2 : (2 : UInt8).toNat = 2 := rfl
 have e3 : (3 : UInt8).toNat = 3 := rfl
 have e4 : (4 : UInt8).toNat = 4 := rfl
 have e5 : (5 : UInt8).toNat = 5 := rfl
 have e6 : (6 : UInt8).toNat = 6 := rfl
 rcases q2 with ⟨e, _⟩ | ⟨e, _⟩ | ⟨e, _⟩ | ⟨e, _⟩ | ⟨e, _⟩ | ⟨e, _⟩ <;> (rw [e] at h; omega)
theorem byt_lt {w : World} {A : Option Addr} {n : Nat} {l : List UInt8} (h : Byt w A n l) {a : Addr} (e : A = some a) (hn : 0 < n) : a.block < w.heap.size := by
 obtain ⟨g, off, e2, hc⟩ := h.2 hn
 rw [e] at e2
 cases e2
 have := hc 0 hn
 unfold World.cell? at this
 cases hh : w.heap[g]? with
 | none => rw [hh] at this; cases this
 | some o => exact (Array.getElem?_eq_some_iff.1 hh).1
theorem cutA_nil {A : Option Addr} {c d : Nat} (h : A = none → c = 0) (e : cutA A c d = none) : c - d = 0 := by
 unfold cutA at e
 split at e
 ·omega
 ·have := h (Option.map_eq_none_iff.1 e)
  omega
theorem tag_flat {A B : Option Addr} {n c m k : Nat} {b : List UInt8} : flat [⟨A, n, c, [18]⟩, ⟨B, m, k, b⟩] = 18 :: b := by simp [flat]
end Mur
namespace Go.Proofs.YtgbadghjnpbiaaaGreatDoor
open Go.RowKit Wk
theorem results_frm {fn : Func} {p u : Tmp} (h : fn.results = #[.cell p 38, .tmp u]) (tmps : Array Value) (w : World) (g : Nat) (cs : Array Value) (fr : Nat × Nat) (v : Value) (hp : tmps.getD p undef = .pointer (some ⟨g, 0, none⟩)) (hg : w.heap[g]? = some (.cells cs 38 fr)) (hs : cs.size = 213) (hv : tmps.getD u undef = v) :
  (results fn tmps).run Tryz.prog w = .ok (.tuple #[.agg cs, v]) w := by
 rw [results_cell_tmp h, hp, hv]
 have := run_loadVar_row (P := Tryz.prog) w g 38 38 cs fr _ hg Tryz.underlying38 rfl (by rw [hs]; kernel_rfl)
 simp [asAddr, this]
end Go.Proofs.YtgbadghjnpbiaaaGreatDoor
namespace Go.Proofs.YtgbadghjnpbiaaaGreatDoor
theorem retF {fn : Func} {R : Ending → World → Prop} {a : Act} {w : World} {p u : Tmp} {g : Nat} {cs : Array Value} {fr : Nat × Nat} (v : Value) (hg : w.heap[g]? = some (.cells cs 38 fr)) (hs : cs.size = 213) (h : R (.returned (.tuple #[.agg cs, v])) w) (hr : fn.results = #[.cell p 38, .tmp u] := by exact rfl) (hd : a.defers = [] := by exact rfl) (hp : a.tmps.getD p undef = .pointer (some ⟨g, 0, none⟩) := by kernel_rfl) (hv : a.tmps.getD u undef = v := by kernel_rfl) : bodyPost Tryz.prog fn R .ret a w := Wk.ret _ hd (results_frm hr a.tmps w g cs fr v hp hg hs hv) h
end Go.Proofs.YtgbadghjnpbiaaaGreatDoor
