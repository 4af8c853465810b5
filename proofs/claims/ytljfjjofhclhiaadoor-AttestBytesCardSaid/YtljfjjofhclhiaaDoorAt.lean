/- An attest as it lies, built, cut, stored and compared; a number's eight bytes. -/
import Derived.Test.YtljfjjofhclhiaaDoorHmS
import Derived.Laws.Tables
namespace Mur
open Go Go.RowKit Wk
/-- An attest's cells. -/
def attC (k r : List UInt8) (n : Int) (t : List UInt8) : List Value := b8s k ++ (b8s r ++ (.int .i64 n :: b8s t))
def z32 : List UInt8 := List.replicate 32 0
theorem z32_length : z32.length = 32 := rfl
section
variable {k r t : List UInt8} {n : Int}
theorem attC_length (hk : k.length = 32) (hr : r.length = 32) (ht : t.length = 32) : (attC k r n t).length = 97 := by simp [attC, b8s_length, hk, hr, ht]
theorem attC_size (hk : k.length = 32) (hr : r.length = 32) (ht : t.length = 32) : (attC k r n t).toArray.size = 97 := attC_length hk hr ht
theorem attC_one : ∀ v ∈ attC k r n t, v.oneCell' = true := by
  intro v hv
  simp only [attC, List.mem_append, List.mem_cons] at hv
  rcases hv with h | h | h | h
  · exact b8s_one k v h
  · exact b8s_one r v h
  · subst h; rfl
  · exact b8s_one t v h
theorem attC_all : (attC k r n t).toArray.all (·.oneCell') = true := Array.all_eq_true_iff_forall_mem.2 fun v hv => attC_one v (by simpa using hv)
theorem attC_zero : (attC z32 z32 0 z32).toArray = #[.int .u8 0, .int .u8 0, .int .u8 0, .int .u8 0, .int .u8 0, .int .u8 0, .int .u8 0, .int .u8 0, .int .u8 0, .int .u8 0, .int .u8 0, .int .u8 0, .int .u8 0, .int .u8 0, .int .u8 0, .int .u8 0,
  .int .u8 0, .int .u8 0, .int .u8 0, .int .u8 0, .int .u8 0, .int .u8 0, .int .u8 0, .int .u8 0, .int .u8 0, .int .u8 0, .int .u8 0, .int .u8 0, .int .u8 0, .int .u8 0, .int .u8 0, .int .u8 0,
  .int .u8 0, .int .u8 0, .int .u8 0, .int .u8 0, .int .u8 0, .int .u8 0, .int .u8 0, .int .u8 0, .int .u8 0, .int .u8 0, .int .u8 0, .int .u8 0, .int .u8 0, .int .u8 0, .int .u8 0, .int .u8 0,
  .int .u8 0, .int .u8 0, .int .u8 0, .int .u8 0, .int .u8 0, .int .u8 0, .int .u8 0, .int .u8 0, .int .u8 0, .int .u8 0, .int .u8 0, .int .u8 0, .int .u8 0, .int .u8 0, .int .u8 0, .int .u8 0, .int .i64 0,
  .int .u8 0, .int .u8 0, .int .u8 0, .int .u8 0, .int .u8 0, .int .u8 0, .int .u8 0, .int .u8 0, .int .u8 0, .int .u8 0, .int .u8 0, .int .u8 0, .int .u8 0, .int .u8 0, .int .u8 0, .int .u8 0,
  .int .u8 0, .int .u8 0, .int .u8 0, .int .u8 0, .int .u8 0, .int .u8 0, .int .u8 0, .int .u8 0, .int .u8 0, .int .u8 0, .int .u8 0, .int .u8 0, .int .u8 0, .int .u8 0, .int .u8 0, .int .u8 0] := rfl
variable {w : World} {g : Nat} {T : TypeId} {fr : Nat × Nat}
theorem att_key (h : w.heap[g]? = some (.cells (attC k r n t).toArray T fr)) : w.rangeAt g 0 (b8s k) := range_sub 0 (b8s k) h (by simp [attC])
theorem att_root (hk : k.length = 32) (h : w.heap[g]? = some (.cells (attC k r n t).toArray T fr)) : w.rangeAt g 32 (b8s r) := range_sub 32 (b8s r) h (by
  show ((b8s k ++ _).drop 32).take _ = _
  rw [List.drop_left' (by rw [b8s_length, hk])]
  simp)
theorem drop64 (hk : k.length = 32) (hr : r.length = 32) : (attC k r n t).drop 64 = .int .i64 n :: b8s t := by
  unfold attC
  rw [← List.append_assoc, List.drop_left' (by rw [List.length_append, b8s_length, b8s_length, hk, hr])]
theorem att_tag (hk : k.length = 32) (hr : r.length = 32) (h : w.heap[g]? = some (.cells (attC k r n t).toArray T fr)) : w.rangeAt g 65 (b8s t) := range_sub 65 (b8s t) h (by
  show ((attC k r n t).drop (64 + 1)).take _ = _
  rw [← List.drop_drop, drop64 hk hr]
  simp)
theorem att_len (hk : k.length = 32) (hr : r.length = 32) (h : w.heap[g]? = some (.cells (attC k r n t).toArray T fr)) : w.cell? ⟨g, 64, none⟩ = some (.int .i64 n) := by
  rw [cell_of_row _ _ _ _ _ _ h, List.getElem?_toArray]
  have := congrArg (fun l => l[0]?) (drop64 (n := n) (t := t) hk hr)
  simpa [List.getElem?_drop] using this
theorem byt_rng {off m : Nat} {l : List UInt8} (h : w.rangeAt g off (b8s l)) (hl : l.length = m) : Byt w (some ⟨g, off, none⟩) m l := ⟨hl, fun _ => ⟨g, off, rfl, fun j hj => h j _ (b8s_get l j (by omega))⟩⟩
end
theorem splice_mid {α : Type} {A B C vs : List α} {off : Nat} (hA : A.length = off) (hB : B.length = vs.length) : splice (A ++ (B ++ C)) off vs = A ++ (vs ++ C) := by
  unfold splice
  rw [List.take_left' hA, ← List.append_assoc A B C, List.drop_left' (by rw [List.length_append]; omega)]
theorem fold_splice : ∀ (vs L : List Value) (off s : Nat), off + s + vs.length ≤ L.length → (vs.zipIdx s).foldl (fun cs (c : Value × Nat) => cs.setIfInBounds (off + c.2) c.1) L.toArray = (splice L (off + s) vs).toArray
  | [], L, off, s, _ => by simp [splice]
  | v :: vs, L, off, s, h => by
    simp only [List.length_cons] at h
    rw [List.zipIdx_cons, List.foldl_cons, List.setIfInBounds_toArray, fold_splice vs (L.set (off + s) v) off (s + 1) (by simp; omega)]
    rw [← Nat.add_assoc, splice_set L (off + s) v vs (by omega)]
section
variable {P : Program} {w : World} {a : Act} {o : Oper}
theorem fill_part {place : Nat → Option (Nat × Nat)} {L vs : List Value} {v : Value} {i off size : Nat} {rest : List (Nat × Value)} {R : Option (Array Value)} (hp : place i = some (off, size)) (hv : v.cells = vs.toArray) (hs : vs.length = size) (hf : off + size ≤ L.length)
    (h : Instr.fill place (splice L off vs).toArray rest = R) : Instr.fill place L.toArray ((i, v) :: rest) = R := by
  subst hs
  unfold Instr.fill
  rw [hp]
  simp only [hv, List.size_toArray, ne_eq, not_true_eq_false, decide_false, Bool.false_or]
  rw [if_neg (by simpa using hf)]
  have := fold_splice vs L off 0 (by omega)
  rw [Nat.add_zero] at this
  rw [← h, ← this]
  congr 1
  rw [← Array.foldl_toList, Array.toList_zipIdx]
theorem fill_att {k r : List UInt8} {n : Int} (hk : k.length = 32) (hr : r.length = 32) : Instr.fill (fun i => #[(0, 32), (32, 32), (64, 1), (65, 32)][i]?) (attC z32 z32 0 z32).toArray [(0, .agg (b8s k).toArray), (1, .agg (b8s r).toArray), (2, .int .i64 n)] = some (attC k r n z32).toArray := by
  have e1 : splice (attC z32 z32 0 z32) 0 (b8s k) = attC k z32 0 z32 := splice_mid (A := []) (B := b8s z32) (C := b8s z32 ++ (.int .i64 0 :: b8s z32)) (vs := b8s k) rfl (by rw [b8s_length, b8s_length, hk]; rfl)
  have e2 : splice (attC k z32 0 z32) 32 (b8s r) = attC k r 0 z32 := splice_mid (A := b8s k) (B := b8s z32) (C := .int .i64 0 :: b8s z32) (vs := b8s r) (by rw [b8s_length, hk]) (by rw [b8s_length, b8s_length, hr]; rfl)
  have e3 : splice (attC k r 0 z32) 64 [.int .i64 n] = attC k r n z32 := by
    have := splice_mid (A := b8s k ++ b8s r) (B := [Value.int .i64 0]) (C := b8s z32) (vs := [Value.int .i64 n]) (off := 64) (by rw [List.length_append, b8s_length, b8s_length, hk, hr]) rfl
    simpa [attC] using this
  refine fill_part (off := 0) (size := 32) rfl rfl (by rw [b8s_length, hk]) (by rw [attC_length rfl rfl rfl]; omega) ?_
  rw [e1]
  refine fill_part (off := 32) (size := 32) rfl rfl (by rw [b8s_length, hr]) (by rw [attC_length hk rfl rfl]; omega) ?_
  rw [e2]
  refine fill_part (off := 64) (size := 1) (vs := [.int .i64 n]) rfl rfl rfl (by rw [attC_length hk hr rfl]; omega) ?_
  rw [e3]
  rfl
theorem fill_att4 {k r t : List UInt8} {n : Int} (hk : k.length = 32) (hr : r.length = 32) (ht : t.length = 32) : Instr.fill (fun i => #[(0, 32), (32, 32), (64, 1), (65, 32)][i]?) (attC z32 z32 0 z32).toArray [(0, .agg (b8s k).toArray), (1, .agg (b8s r).toArray), (2, .int .i64 n), (3, .agg (b8s t).toArray)] = some (attC k r n t).toArray := by
  have e1 : splice (attC z32 z32 0 z32) 0 (b8s k) = attC k z32 0 z32 := splice_mid (A := []) (B := b8s z32) (C := b8s z32 ++ (.int .i64 0 :: b8s z32)) (vs := b8s k) rfl (by rw [b8s_length, b8s_length, hk]; rfl)
  have e2 : splice (attC k z32 0 z32) 32 (b8s r) = attC k r 0 z32 := splice_mid (A := b8s k) (B := b8s z32) (C := .int .i64 0 :: b8s z32) (vs := b8s r) (by rw [b8s_length, hk]) (by rw [b8s_length, b8s_length, hr]; rfl)
  have e3 : splice (attC k r 0 z32) 64 [.int .i64 n] = attC k r n z32 := by
    have := splice_mid (A := b8s k ++ b8s r) (B := [Value.int .i64 0]) (C := b8s z32) (vs := [Value.int .i64 n]) (off := 64) (by rw [List.length_append, b8s_length, b8s_length, hk, hr]) rfl
    simpa [attC] using this
  have e4 : splice (attC k r n z32) 65 (b8s t) = attC k r n t := by
    have := splice_mid (A := b8s k ++ (b8s r ++ [Value.int .i64 n])) (B := b8s z32) (C := []) (vs := b8s t) (off := 65) (by simp [b8s_length, hk, hr]) (by rw [b8s_length, b8s_length, ht]; rfl)
    simpa [attC] using this
  refine fill_part (off := 0) (size := 32) rfl rfl (by rw [b8s_length, hk]) (by rw [attC_length rfl rfl rfl]; omega) ?_
  rw [e1]
  refine fill_part (off := 32) (size := 32) rfl rfl (by rw [b8s_length, hr]) (by rw [attC_length hk rfl rfl]; omega) ?_
  rw [e2]
  refine fill_part (off := 64) (size := 1) (vs := [.int .i64 n]) rfl rfl rfl (by rw [attC_length hk hr rfl]; omega) ?_
  rw [e3]
  refine fill_part (off := 65) (size := 32) rfl rfl (by rw [b8s_length, ht]) (by rw [attC_length hk hr rfl]; omega) ?_
  rw [e4]
  rfl
theorem run_built (t : TypeId) (parts : Array (Nat × Operand)) (ho : o.op = .build t parts) (vals : List (Nat × Value)) (hv : (parts.map fun p => (p.1, a.eval p.2)) = vals.toArray) (cells : Array Value) (hb : P.built t vals = some cells) : (execOp a.eval o).run P w = .ok (.value (.agg cells)) w := by
  have := run_build (P := P) w t vals.toArray cells (by simpa using hb)
  unfold execOp
  simp only [ho, hv, Sem.run_bind, this, Result.andThen_ok, Sem.run_pure]
/-- An array in the midst of a block, as a slice. -/
theorem arr_slice_at (t e : TypeId) (x : Operand) (n : Nat) (ho : o.op = .slice t x none none none) (ht : P.underlying t = some (.array n e)) (hsz : (P.info? e).map (·.size) = some 1) (g off : Nat) (hx : a.eval x = .pointer (some ⟨g, off, none⟩)) :
    (execOp a.eval o).run P w = .ok (.value (.slice (some ⟨g, off, none⟩) n n)) w := by
  obtain ⟨i, hi, hs⟩ := Option.map_eq_some_iff.1 hsz
  have e0 : (⟨g, off, none⟩ : Addr).add 0 = ⟨g, off, none⟩ := by rw [Addr.add_mid]; rfl
  unfold execOp
  simp only [ho, hx, Option.map_none]
  simp [Instr.sliceAt, Instr.slice, Instr.sureAddr, run_underlying ht, Instr.sliceBounds, Go.sizeOf, typeInfo, hi, e0]
/-- The tag stored. -/
theorem store_tag (ty : TypeId) (x y : Operand) (ho : o.op = .store ty x y) (g : Nat) (hx : a.eval x = .pointer (some ⟨g, 65, none⟩)) (l : List UInt8) (hl : l.length = 32) (hy : a.eval y = .agg (b8s l).toArray) (hi : (P.info? ty).map (·.size) = some 32)
    (T : TypeId) (k r t : List UInt8) (n : Int) (hk : k.length = 32) (hr : r.length = 32) (ht : t.length = 32) (hg : w.heap[g]? = some (.cells (attC k r n t).toArray T (0, 0))) :
    ∃ w', (execOp a.eval o).run P w = .ok .skip w' ∧ w'.heap[g]? = some (.cells (attC k r n l).toArray T (0, 0)) ∧ Chg [g] w w' := by
  obtain ⟨w', h1, h2, h3⟩ := storeR (P := P) ty x y ho g 65 hx (b8s l) hy (by rw [hi, b8s_length, hl]) (b8s_one l) T (attC k r n t) hg (by rw [b8s_length, hl, attC_length hk hr ht]; omega)
  have e4 : splice (attC k r n t) 65 (b8s l) = attC k r n l := by
    have := splice_mid (A := b8s k ++ (b8s r ++ [Value.int .i64 n])) (B := b8s t) (C := []) (vs := b8s l) (off := 65) (by simp [b8s_length, hk, hr]) (by rw [b8s_length, b8s_length, hl, ht])
    simpa [attC] using this
  exact ⟨w', h1, by rw [h2, e4], h3⟩
/-- A shift right of an unsigned number. -/
theorem shr64 (t ty : TypeId) (x y : Operand) (ho : o.op = .binOp .shr t x y ty) (u k : Nat) (yk : IntKind) (hx : a.eval x = .int .u64 ((u : Nat) : Int)) (hy : a.eval y = .int yk ((k : Nat) : Int)) (hk : k ≤ 64) (p : Nat) (hp : 2 ^ k = p) : (execOp a.eval o).run P w = .ok (.value (.int .u64 (((u / p : Nat)) : Int))) w := by
  subst hp
  have hb : IntKind.u64.bits = 64 := rfl
  have key : (Op.shift .shr .u64 ((u : Nat) : Int) yk ((k : Nat) : Int)).run P w = .ok (.int .u64 ((u / 2 ^ k : Nat) : Int)) w := by
    unfold Op.shift
    rw [if_neg (by omega)]
    have h1 : min ((k : Nat) : Int).toNat IntKind.u64.bits = k := by rw [hb]; simp; omega
    have h2 : Int.fdiv ((u : Nat) : Int) (2 ^ k) = ((u / 2 ^ k : Nat) : Int) := by
      rw [Int.fdiv_eq_ediv_of_nonneg _ (by exact_mod_cast Nat.zero_le _)]
      exact_mod_cast rfl
    simp only [h1, h2, Sem.run_pure]
  have hg : (eqGuard .shr t x y (.int .u64 ((u : Nat) : Int)) (.int yk ((k : Nat) : Int))).run P w = .ok () w := rfl
  have key2 : (binOp .shr t (.int .u64 ((u : Nat) : Int)) (.int yk ((k : Nat) : Int))).run P w = .ok (.int .u64 ((u / 2 ^ k : Nat) : Int)) w := key
  unfold execOp
  simp only [ho, hx, hy]
  simp only [Sem.run_bind, Sem.run_pure, hg, Result.andThen_ok, key2]
end
theorem u8_mod (u : Nat) : IntKind.u8.wrap ((u : Nat) : Int) = ((u % 256 : Nat) : Int) := by
  show ((u : Nat) : Int) % 256 = _
  omega
def u64n (n : Int) : Nat := (IntKind.u64.wrap n).toNat
/-- A number's eight bytes, the highest first. -/
def e8 (u : Nat) : List UInt8 := [UInt8.ofNat (u / 72057594037927936), UInt8.ofNat (u / 281474976710656), UInt8.ofNat (u / 1099511627776), UInt8.ofNat (u / 4294967296), UInt8.ofNat (u / 16777216), UInt8.ofNat (u / 65536), UInt8.ofNat (u / 256), UInt8.ofNat (u / 1)]
theorem e8_cells (u : Nat) : (b8s (e8 u)).toArray = #[.int .u8 ((u / 72057594037927936 % 256 : Nat) : Int), .int .u8 ((u / 281474976710656 % 256 : Nat) : Int), .int .u8 ((u / 1099511627776 % 256 : Nat) : Int), .int .u8 ((u / 4294967296 % 256 : Nat) : Int),
    .int .u8 ((u / 16777216 % 256 : Nat) : Int), .int .u8 ((u / 65536 % 256 : Nat) : Int), .int .u8 ((u / 256 % 256 : Nat) : Int), .int .u8 ((u / 1 % 256 : Nat) : Int)] := by
  have h : ∀ x : Nat, (UInt8.ofNat x).toNat = x % 256 := fun x => by simp
  simp only [e8, b8s, List.map_cons, List.map_nil, h]
theorem e8_length (u : Nat) : (e8 u).length = 8 := rfl
/-- What a result's tag is of. -/
def body (k r : List UInt8) (n : Int) : List UInt8 := [17] ++ (k ++ (r ++ e8 (u64n n)))
def may (n : Int) : Prop := 1 ≤ n ∧ n ≤ 5000
instance (n : Int) : Decidable (may n) := by unfold may; infer_instance
end Mur
namespace Mur
open Go Go.RowKit Wk
section
variable {P : Program} {w : World} {a : Act} {o : Oper}
theorem conv_u64n (s t : TypeId) (x : Operand) (ho : o.op = .convert s t x) (hs : (P.underlying s).isSome = true) (ht : P.underlying t = some (.int .u64)) (k : IntKind) (z : Int) (hx : a.eval x = .int k z) : (execOp a.eval o).run P w = .ok (.value (.int .u64 ((u64n z : Nat) : Int))) w := by
  obtain ⟨v, w1, h, u, rfl, rfl, hu⟩ := to_u64 (P := P) (w := w) s t x ho hs ht k z hx
  rw [h]
  have : u = u64n z := by unfold u64n; omega
  rw [this]
theorem conv_u8 (s t : TypeId) (x : Operand) (ho : o.op = .convert s t x) (hs : (P.underlying s).isSome = true) (ht : P.underlying t = some (.int .u8)) (k : IntKind) (u : Nat) (hx : a.eval x = .int k ((u : Nat) : Int)) : (execOp a.eval o).run P w = .ok (.value (.int .u8 ((u % 256 : Nat) : Int))) w := by
  have hk : P.intKind t = .u8 := by simp [Program.intKind, ht]
  have key : (convert s t (.int k ((u : Nat) : Int))).run P w = .ok (.int .u8 ((u % 256 : Nat) : Int)) w := by
    have := run_convert_int (P := P) (w := w) s t k ((u : Nat) : Int) hs (by rw [ht, hk])
    rw [this, hk, u8_mod]
  unfold execOp
  simp only [ho, hx, Sem.run_bind, key, Result.andThen_ok, Sem.run_pure]
theorem quo_u64 (t ty : TypeId) (x y : Operand) (ho : o.op = .binOp .quo t x y ty) (i n : Nat) (hx : a.eval x = .int .u64 ((i : Nat) : Int)) (hy : a.eval y = .int .u64 ((n : Nat) : Int)) (hn : 0 < n) (hi : i < 18446744073709551616) :
    (execOp a.eval o).run P w = .ok (.value (.int .u64 ((i / n : Nat) : Int))) w := by
  have hne : ¬ n = 0 := by omega
  have h1 : Int.tdiv (i : Int) (n : Int) = ((i / n : Nat) : Int) := by
    rw [Int.tdiv_eq_ediv_of_nonneg (by omega)]
    exact_mod_cast rfl
  have hlt : i / n ≤ i := Nat.div_le_self i n
  have h2 : IntKind.u64.wrap ((i / n : Nat) : Int) = ((i / n : Nat) : Int) := u64_nat (by omega)
  unfold execOp
  simp only [ho, hx, hy]
  simp only [eqGuard, binOp]
  simp [Op.intDiv, hne, h1]
  first | done | exact_mod_cast h2
end
theorem u64n_lt (n : Int) : u64n n < 18446744073709551616 := by
  have h1 : IntKind.u64.wrap n = n % 18446744073709551616 := rfl
  unfold u64n
  rw [h1]
  omega
/-- A literal's bytes, as one's own. -/
theorem own8_lit {w : World} {base e g n : Nat} {l : List UInt8} (h : w.heap[g]? = some (.cells (b8s l).toArray e (0, 0))) (hb : base ≤ g) (hn : l.length = n) (hm : n ≤ 1000) : Own8 w base e (some ⟨g, 0, none⟩) n n l :=
  own8 ⟨by rw [b8s_length, hn, Nat.mul_one], .inr ⟨g, n, _, rfl, hb, h, Nat.le_refl _, by unfold maxLen; omega, by simp [b8s_length, hn], by
    show (b8s l).take (n * 1) = _
    rw [List.take_of_length_le (by rw [b8s_length, hn]; omega)]⟩⟩
theorem e8_quo (u : Nat) : #[Value.int .u8 ((u / 256 / 256 / 256 / 256 / 256 / 256 / 256 % 256 : Nat) : Int), .int .u8 ((u / 256 / 256 / 256 / 256 / 256 / 256 % 256 : Nat) : Int), .int .u8 ((u / 256 / 256 / 256 / 256 / 256 % 256 : Nat) : Int), .int .u8 ((u / 256 / 256 / 256 / 256 % 256 : Nat) : Int),
    .int .u8 ((u / 256 / 256 / 256 % 256 : Nat) : Int), .int .u8 ((u / 256 / 256 % 256 : Nat) : Int), .int .u8 ((u / 256 % 256 : Nat) : Int), .int .u8 ((u % 256 : Nat) : Int)] = (b8s (e8 u)).toArray := by
  rw [e8_cells]
  simp only [Nat.div_div_eq_div_mul, Nat.div_one, Nat.reduceMul]
theorem body_flat (A B C D : Option Addr) (n1 n2 n3 n4 c1 c2 c3 c4 : Nat) (k r : List UInt8) (n : Int) (E : List UInt8) (hE : E = e8 (u64n n)) : flat [⟨A, n1, c1, [17]⟩, ⟨B, n2, c2, k⟩, ⟨C, n3, c3, r⟩, ⟨D, n4, c4, E⟩] = body k r n := by
  subst hE
  show [17] ++ (k ++ (r ++ (e8 (u64n n) ++ []))) = _
  rw [List.append_nil]
  rfl
theorem body_length {k r : List UInt8} {n : Int} (hk : k.length = 32) (hr : r.length = 32) : (body k r n).length = 73 := by
  unfold body
  simp only [List.length_append, hk, hr, e8_length]
  rfl
end Mur
