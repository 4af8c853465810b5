/- Reading an attest: cuts with three numbers, bytes copied into the midst of a row, a number out of its bytes. No program in sight. -/
import Derived.Test.YtljfjjofhclhiaaDoorAtB
namespace Mur
open Go Go.RowKit Wk
section
variable {P : Program} {w : World} {a : Act} {o : Oper}
theorem byt_pre {A : Option Addr} {n : Nat} {l : List UInt8} (h : Byt w A n l) {k : Nat} (hk : k ≤ n) : Byt w A k (l.take k) := by
  refine ⟨by rw [List.length_take, h.1]; omega, fun hp => ?_⟩
  obtain ⟨g, off, rfl, hc⟩ := h.2 (by omega)
  refine ⟨g, off, rfl, fun j hj => ?_⟩
  rw [hc j (by omega)]
  simp [List.getD_eq_getElem?_getD, hj]
theorem byt_sub {g off n : Nat} {l : List UInt8} (h : Byt w (some ⟨g, off, none⟩) n l) (lo hi m : Nat) (h1 : lo + m = hi) (h2 : hi ≤ n) : Byt w (some ⟨g, off + lo, none⟩) m ((l.take hi).drop lo) := by
  subst h1
  have hp := byt_pre h h2
  refine ⟨by rw [List.length_drop, hp.1]; omega, fun hm => ?_⟩
  obtain ⟨g', off', e, hc⟩ := hp.2 (by omega)
  injection e with e
  injection e with e1 e2
  subst e1 e2
  refine ⟨g, off + lo, rfl, fun j hj => ?_⟩
  rw [Nat.add_assoc, hc (lo + j) (by omega)]
  simp [List.getD_eq_getElem?_getD]
theorem run_cut3 (t : TypeId) (x : Operand) (ol : Option Operand) (oh om : Operand) (ho : o.op = .slice t x ol (some oh) (some om)) (e : TypeId) (ht : P.underlying t = some (.slice e)) (hsz : (P.info? e).map (·.size) = some 1) (g off n c lo hi mx m : Nat)
    (hx : a.eval x = .slice (some ⟨g, off, none⟩) n c) (hl : ol.map a.eval = some (.int .i64 ((lo : Nat) : Int)) ∨ (ol = none ∧ lo = 0)) (hh : a.eval oh = .int .i64 ((hi : Nat) : Int)) (hm : a.eval om = .int .i64 ((mx : Nat) : Int)) (h1 : lo + m = hi) (h2 : hi = mx) (h3 : mx ≤ c) (h4 : 0 < m) :
    (execOp a.eval o).run P w = .ok (.value (.slice (some ⟨g, off + lo, none⟩) m m)) w := by
  subst h2
  obtain ⟨i, hi', hs⟩ := Option.map_eq_some_iff.1 hsz
  have hne : ¬ hi = lo := by omega
  have e1 : hi - lo = m := by omega
  have e2 : (⟨g, off, none⟩ : Addr).add lo = ⟨g, off + lo, none⟩ := Addr.add_mid g off lo
  unfold execOp
  rcases hl with hl | ⟨rfl, rfl⟩
  · simp only [ho, hx, hl, hh, hm, Option.map_some]
    simp [Instr.sliceAt, Instr.slice, run_underlying ht, Instr.sliceBounds, Go.sizeOf, typeInfo, hi', hs, run_sliceBound w .i64 ((lo : Nat) : Int) hi _ (by omega) (by omega), run_sliceBound w .i64 ((hi : Nat) : Int) hi _ (by omega) (by omega), run_sliceBound w .i64 ((hi : Nat) : Int) c _ (by omega) (by omega), e1, hne, e2]
  · have e3 : hi = m := by omega
    subst e3
    simp only [ho, hx, hh, hm, Option.map_some, Option.map_none]
    simp [Instr.sliceAt, Instr.slice, run_underlying ht, Instr.sliceBounds, Go.sizeOf, typeInfo, hi', run_sliceBound w .i64 ((hi : Nat) : Int) hi _ (by omega) (by omega), run_sliceBound w .i64 ((hi : Nat) : Int) c _ (by omega) (by omega), Addr.add_mid]
theorem cutA_at {g off c l : Nat} (h : l < c) : cutA (some ⟨g, off, none⟩) c l = some ⟨g, off + l, none⟩ := by
  have hne : ¬ c = l := by omega
  have hne2 : ¬ c - l = 0 := by omega
  have e2 : (⟨g, off, none⟩ : Addr).add l = ⟨g, off + l, none⟩ := Addr.add_mid g off l
  unfold cutA
  first | simp [hne, e2] | simp [hne2, e2]
theorem run_from_at (t : TypeId) (x y : Operand) (ho : o.op = .slice t x (some y) none none) (e : TypeId) (ht : P.underlying t = some (.slice e)) (hsz : (P.info? e).map (·.size) = some 1) (g off n c l m : Nat)
    (hx : a.eval x = .slice (some ⟨g, off, none⟩) n c) (hy : a.eval y = .int .i64 (l : Int)) (hl : l < n) (hnc : n ≤ c) (hm : n - l = m) : (execOp a.eval o).run P w = .ok (.value (.slice (some ⟨g, off + l, none⟩) m (c - l))) w := by
  rw [run_op_from t x y ho e ht hsz _ n c l hx hy (by omega) hnc, cutA_at (by omega), hm]
theorem copy_mid (d s : Operand) (dT sT : TypeId) (ho : o.op = .call { callee := .builtin .copy, args := #[d, s], argTypes := #[dT, sT] }) (e : TypeId) (hu : P.underlying dT = some (.slice e)) (hsz : (P.info? e).map (·.size) = some 1)
    (g off D c : Nat) (hd : a.eval d = .slice (some ⟨g, off, none⟩) D c) (A : Option Addr) (n c2 : Nat) (hs : a.eval s = .slice A n c2) (t : TypeId) (L : List Value) (r : List UInt8) (hg : w.heap[g]? = some (.cells L.toArray t (0, 0))) (hb : Byt w A n r) (hn : n ≤ D) (hp : 0 < n) (hf : off + n ≤ L.length)
    (R : List Value) (hR : splice L off (b8s r) = R) :
    ∃ v w', (execOp a.eval o).run P w = .ok (.value v) w' ∧ v = .int .i64 ((n : Nat) : Int) ∧ w'.heap[g]? = some (.cells R.toArray t (0, 0)) ∧ Chg [g] w w' := by
  subst hR
  have hrn := hb.1
  obtain ⟨g', off', rfl, hc⟩ := hb.2 hp
  have hsrc : ∀ j v, (b8s r)[j]? = some v → w.cell? ((⟨g', off', none⟩ : Addr).add j) = some v := by
    intro j v hv
    have hj : j < r.length := by
      have := (List.getElem?_eq_some_iff.1 hv).1
      simpa [b8s_length] using this
    rw [Addr.add_mid]
    rw [b8s_get r j hj] at hv
    injection hv with hv
    subst hv
    exact hc j (by omega)
  have hrun := run_copy_row (P := P) w dT sT o.type e g off D c ⟨g', off', none⟩ n c2 L.toArray t (b8s r) hu hsz hg (by rw [b8s_length, hrn]; exact (Nat.min_eq_left hn).symm) hsrc (by simp [b8s_length]; omega) (b8s_one r)
  refine ⟨.int .i64 ((n : Nat) : Int), w.setRow g (splice L off (b8s r)).toArray, ?_, rfl, setRow_heap w g _ _ t _ hg, ⟨rfl, rfl, rfl, by simp [World.setRow], fun k hk ho => setRow_other _ _ _ _ (fun h => ho.1 h)⟩⟩
  unfold execOp
  simp only [ho, resolve, invoke, builtin, Sem.run_bind, Sem.run_pure, Result.andThen_ok, List.map_toArray, List.map_cons, List.map_nil, hs, hd, hrun, goInt, b8s_length, hrn]
  congr 2
  unfold splice
  simp [b8s_length, hrn]
theorem att_sp0 {k r t x : List UInt8} {n : Int} (hk : k.length = 32) (hx : x.length = 32) : splice (attC k r n t) 0 (b8s x) = attC x r n t := splice_mid (A := []) (B := b8s k) (C := b8s r ++ (.int .i64 n :: b8s t)) (vs := b8s x) rfl (by rw [b8s_length, b8s_length, hk, hx])
theorem att_sp32 {k r t x : List UInt8} {n : Int} (hk : k.length = 32) (hr : r.length = 32) (hx : x.length = 32) : splice (attC k r n t) 32 (b8s x) = attC k x n t := splice_mid (A := b8s k) (B := b8s r) (C := .int .i64 n :: b8s t) (vs := b8s x) (by rw [b8s_length, hk]) (by rw [b8s_length, b8s_length, hr, hx])
theorem att_sp65 {k r t x : List UInt8} {n : Int} (hk : k.length = 32) (hr : r.length = 32) (ht : t.length = 32) (hx : x.length = 32) : splice (attC k r n t) 65 (b8s x) = attC k r n x := by
  have := splice_mid (A := b8s k ++ (b8s r ++ [Value.int .i64 n])) (B := b8s t) (C := []) (vs := b8s x) (off := 65) (by simp [b8s_length, hk, hr]) (by rw [b8s_length, b8s_length, hx, ht])
  simpa [attC] using this
theorem store_len (ty : TypeId) (x y : Operand) (ho : o.op = .store ty x y) (hi : (P.info? ty).map (·.size) = some 1) (g : Nat) (hx : a.eval x = .pointer (some ⟨g, 64, none⟩)) (m : Int) (hy : a.eval y = .int .i64 m)
    (T : TypeId) (k r t : List UInt8) (n : Int) (hk : k.length = 32) (hr : r.length = 32) (ht : t.length = 32) (hg : w.heap[g]? = some (.cells (attC k r n t).toArray T (0, 0))) :
    ∃ w', (execOp a.eval o).run P w = .ok .skip w' ∧ w'.heap[g]? = some (.cells (attC k r m t).toArray T (0, 0)) ∧ Chg [g] w w' := by
  obtain ⟨w', h1, h2, h3⟩ := store1 (P := P) ty x y ho hi g 64 hx _ hy rfl T _ hg (by rw [List.size_toArray, attC_length hk hr ht]; omega)
  refine ⟨w', h1, ?_, h3⟩
  rw [h2, List.setIfInBounds_toArray]
  congr 3
  unfold attC
  rw [← List.append_assoc, List.set_append_right _ _ (by rw [List.length_append, b8s_length, b8s_length, hk, hr]; omega), List.length_append, b8s_length, b8s_length, hk, hr]
  simp
theorem shl8_64 (t ty : TypeId) (x y : Operand) (ho : o.op = .binOp .shl t x y ty) (u : Nat) (yk : IntKind) (hx : a.eval x = .int .u64 ((u : Nat) : Int)) (hy : a.eval y = .int yk ((8 : Nat) : Int)) (hu : u < 72057594037927936) : (execOp a.eval o).run P w = .ok (.value (.int .u64 ((u * 256 : Nat) : Int))) w := by
  have key : (Op.shift .shl .u64 ((u : Nat) : Int) yk ((8 : Nat) : Int)).run P w = .ok (.int .u64 ((u * 256 : Nat) : Int)) w := by
    have h1 : IntKind.u64.wrap (((u : Nat) : Int) * 2 ^ 8) = ((u * 256 : Nat) : Int) := by
      have : ((u : Nat) : Int) * 2 ^ 8 = ((u * 256 : Nat) : Int) := by omega
      rw [this, u64_nat (by omega)]
    show Sem.run P (pure (Value.int .u64 (IntKind.u64.wrap (((u : Nat) : Int) * 2 ^ 8))) : Sem Value) w = _
    rw [h1]
    rfl
  have hg : (eqGuard .shl t x y (.int .u64 ((u : Nat) : Int)) (.int yk ((8 : Nat) : Int))).run P w = .ok () w := rfl
  have key2 : (binOp .shl t (.int .u64 ((u : Nat) : Int)) (.int yk ((8 : Nat) : Int))).run P w = .ok (.int .u64 ((u * 256 : Nat) : Int)) w := key
  unfold execOp
  simp only [ho, hx, hy]
  simp only [Sem.run_bind, Sem.run_pure, hg, Result.andThen_ok, key2]
theorem or_byte (u b : Nat) (hb : b < 256) : u * 256 ||| b = u * 256 + b := by
  have := Nat.two_pow_add_eq_or_of_lt (i := 8) (b := b) (by simpa using hb) u
  rw [Nat.mul_comm]
  exact this.symm
theorem or64 (t ty : TypeId) (x y : Operand) (ho : o.op = .binOp .or t x y ty) (u b : Nat) (hx : a.eval x = .int .u64 ((u * 256 : Nat) : Int)) (hy : a.eval y = .int .u64 ((b : Nat) : Int)) (hb : b < 256) (hu : u < 72057594037927936) : (execOp a.eval o).run P w = .ok (.value (.int .u64 ((u * 256 + b : Nat) : Int))) w := by
  have hbits : bits .or .u64 ((u * 256 : Nat) : Int) ((b : Nat) : Int) = ((u * 256 + b : Nat) : Int) := by
    show IntKind.u64.wrap ((BitVec.ofInt 64 ((u * 256 : Nat) : Int) ||| BitVec.ofInt 64 ((b : Nat) : Int)).toNat : Int) = _
    rw [BitVec.ofInt_natCast, BitVec.ofInt_natCast, BitVec.toNat_or, BitVec.toNat_ofNat, BitVec.toNat_ofNat, Nat.mod_eq_of_lt (by omega), Nat.mod_eq_of_lt (by omega), or_byte u b hb, u64_nat (by omega)]
  have key : (binOp .or t (.int .u64 ((u * 256 : Nat) : Int)) (.int .u64 ((b : Nat) : Int))).run P w = .ok (.int .u64 (bits .or .u64 ((u * 256 : Nat) : Int) ((b : Nat) : Int))) w := rfl
  have hg : (eqGuard .or t x y (.int .u64 ((u * 256 : Nat) : Int)) (.int .u64 ((b : Nat) : Int))).run P w = .ok () w := rfl
  rw [hbits] at key
  unfold execOp
  simp only [ho, hx, hy]
  simp only [Sem.run_bind, Sem.run_pure, hg, Result.andThen_ok, key]
end
/-- A number out of its eight bytes. -/
def be8 (e : List UInt8) : Nat :=
  (((((((0 * 256 + (e.getD 0 0).toNat) * 256 + (e.getD 1 0).toNat) * 256 + (e.getD 2 0).toNat) * 256 + (e.getD 3 0).toNat) * 256 + (e.getD 4 0).toNat) * 256 + (e.getD 5 0).toNat) * 256 + (e.getD 6 0).toNat) * 256 + (e.getD 7 0).toNat
end Mur
namespace Mur
open Go
theorem e8_be (u : Nat) (h : u < 5001) : be8 (e8 u) = u := by
  have q : ∀ x : Nat, (UInt8.ofNat x).toNat = x % 256 := fun x => by simp
  simp only [be8, e8, List.getD_cons_zero, List.getD_cons_succ, q]
  omega
theorem may_u64 {n : Int} (h : may n) : u64n n < 5001 ∧ ((u64n n : Nat) : Int) = n := by
  have h1 : IntKind.u64.wrap n = n % 18446744073709551616 := rfl
  unfold may at h
  unfold u64n
  rw [h1]
  omega
theorem body_inj {k r k' r' : List UInt8} {n n' : Int} (hk : k.length = 32) (hr : r.length = 32) (hk' : k'.length = 32) (hr' : r'.length = 32) (hn : may n) (hn' : may n') (h : body k r n = body k' r' n') : k = k' ∧ r = r' ∧ n = n' := by
  unfold body at h
  have h1 := (List.append_inj h rfl).2
  have h2 := List.append_inj h1 (by rw [hk, hk'])
  have h3 := List.append_inj h2.2 (by rw [hr, hr'])
  refine ⟨h2.1, h3.1, ?_⟩
  have a1 := may_u64 hn
  have a2 := may_u64 hn'
  have h4 := congrArg be8 h3.2
  rw [e8_be _ a1.1, e8_be _ a2.1] at h4
  omega
end Mur
