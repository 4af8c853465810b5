/- What the row rests on, part 5. -/
import Derived.Lib.MakeNoZero
import Derived.Lib.Bytealg
import Derived.Laws.Externs
import Derived.Test.YtgbadghjnpbiaaaGreatDoorRG4
import Derived.Test.YtgbadghjnpbiaaaGreatDoorRG2
import Derived.Test.YtgbadghjnpbiaaaGreatDoorRG3
namespace Mur
open Go Go.RowKit Wk
section
variable {P : Program} {w : World} {a : Act} {o : Oper}
theorem byt_pre {A : Option Addr} {n : Nat} {l : List UInt8} (h : Byt w A n l) {k : Nat} (hk : k ≤ n) : Byt w A k (l.take k) := by
 refine ⟨by rw [List.length_take, h.1]; omega, fun hp => ?_⟩
 obtain ⟨g, off, rfl, hc⟩ := h.2 (by omega)
 refine ⟨g, off, rfl, fun j hj => ?_⟩
 rw [hc j (by omega)]
 simp [List.getD_eq_getElem?_getD, hj]
theorem byt_sub {g off n : Nat} {l : List UInt8} (h : Byt w (some ⟨g, off, none⟩) n l) (lo hi m : Nat) (h1 : lo + m = hi) (h2 : hi ≤ n) : Byt w (some ⟨g, off + lo, none⟩) m ((l.take hi).drop lo) := by
 subst h1
 have hp := byt_pre h h2
 refine ⟨by rw [List.length_drop, hp.1]; omega, fun hm => ?_⟩
 obtain ⟨g', off', e, hc⟩ := hp.2 (by omega)
 injection e with e
 injection e with e1 e2
 subst e1 e2
 refine ⟨g, off + lo, rfl, fun j hj => ?_⟩
 rw [Nat.add_assoc, hc (lo + j) (by omega)]
 simp [List.getD_eq_getElem?_getD]
theorem run_cut3 (t : TypeId) (x : Operand) (ol : Option Operand) (oh om : Operand) (ho : o.op = .slice t x ol (some oh) (some om)) (e : TypeId) (ht : P.underlying t = some (.slice e)) (hsz : (P.info? e).map (·.size) = some 1) (g off n c lo hi mx m : Nat)
  (hx : a.eval x = .slice (some ⟨g, off, none⟩) n c) (hl : ol.map a.eval = some (.int .i64 ((lo : Nat) : Int)) ∨ (ol = none ∧ lo = 0)) (hh : a.eval oh = .int .i64 ((hi : Nat) : Int)) (hm : a.eval om = .int .i64 ((mx : Nat) : Int)) (h1 : lo + m = hi) (h2 : hi = mx) (h3 : mx ≤ c) (h4 : 0 < m) :
  (execOp a.eval o).run P w = .ok (.value (.slice (some ⟨g, off + lo, none⟩) m m)) w := by
 subst h2
 obtain ⟨i, hi', hs⟩ := Option.map_eq_some_iff.1 hsz
 have hne : ¬ hi = lo := by omega
 have e1 : hi - lo = m := by omega
 have e2 : (⟨g, off, none⟩ : Addr).add lo = ⟨g, off + lo, none⟩ := Addr.add_mid g off lo
 unfold execOp
 rcases hl with hl | ⟨rfl, rfl⟩
 ·simp only [ho, hx, hl, hh, hm, Option.map_some]
  simp [Instr.sliceAt, Instr.slice, run_underlying ht, Instr.sliceBounds, Go.sizeOf, typeInfo, hi', hs, run_sliceBound w .i64 ((lo : Nat) : Int) hi _ (by omega) (by omega), run_sliceBound w .i64 ((hi : Nat) : Int) hi _ (by omega) (by omega), run_sliceBound w .i64 ((hi : Nat) : Int) c _ (by omega) (by omega), e1, hne, e2]
 ·have e3 : hi = m := by omega
  subst e3
  simp only [ho, hx, hh, hm, Option.map_some, Option.map_none]
  simp [Instr.sliceAt, Instr.slice, run_underlying ht, Instr.sliceBounds, Go.sizeOf, typeInfo, hi', run_sliceBound w .i64 ((hi : Nat) : Int) hi _ (by omega) (by omega), run_sliceBound w .i64 ((hi : Nat) : Int) c _ (by omega) (by omega), Addr.add_mid]
theorem cutA_at {g off c l : Nat} (h : l < c) : cutA (some ⟨g, off, none⟩) c l = some ⟨g, off + l, none⟩ := by
 have hne : ¬ c = l := by omega
 have hne2 : ¬ c - l = 0 := by omega
 have e2 : (⟨g, off, none⟩ : Addr).add l = ⟨g, off + l, none⟩ := Addr.add_mid g off l
 unfold cutA
 first | simp [hne, e2] | simp [hne2, e2]
theorem run_from_at (t : TypeId) (x y : Operand) (ho : o.op = .slice t x (some y) none none) (e : TypeId) (ht : P.underlying t = some (.slice e)) (hsz : (P.info? e).map (·.size) = some 1) (g off n c l m : Nat)
  (hx : a.eval x = .slice (some ⟨g, off, none⟩) n c) (hy : a.eval y = .int .i64 (l : Int)) (hl : l < n) (hnc : n ≤ c) (hm : n - l = m) : (execOp a.eval o).run P w = .ok (.value (.slice (some ⟨g, off + l, none⟩) m (c - l))) w := by
 rw [run_op_from t x y ho e ht hsz _ n c l hx hy (by omega) hnc, cutA_at (by omega), hm]
theorem copy_mid (d s : Operand) (dT sT : TypeId) (ho : o.op = .call { callee := .builtin .copy, args := #[d, s], argTypes := #[dT, sT] }) (e : TypeId) (hu : P.underlying dT = some (.slice e)) (hsz : (P.info? e).map (·.size) = some 1)
  (g off D c : Nat) (hd : a.eval d = .slice (some ⟨g, off, none⟩) D c) (A : Option Addr) (n c2 : Nat) (hs : a.eval s = .slice A n c2) (t : TypeId) (L : List Value) (r : List UInt8) (hg : w.heap[g]? = some (.cells L.toArray t (0, 0))) (hb : Byt w A n r) (hn : n ≤ D) (hp : 0 < n) (hf : off + n ≤ L.length)
  (R : List Value) (hR : splice L off (b8s r) = R) :
  ∃ v w', (execOp a.eval o).run P w = .ok (.value v) w' ∧ v = .int .i64 ((n : Nat) : Int) ∧ w'.heap[g]? = some (.cells R.toArray t (0, 0)) ∧ Chg [g] w w' := by
 subst hR
 have hrn := hb.1
 obtain ⟨g', off', rfl, hc⟩ := hb.2 hp
 have hsrc : ∀ j v, (b8s r)[j]? = some v → w.cell? ((⟨g', off', none⟩ : Addr).add j) = some v := by
  intro j v hv
  have hj : j < r.length := by
   have := (List.getElem?_eq_some_iff.1 hv).1
   simpa [b8s_length] using this
  rw [Addr.add_mid]
  rw [b8s_get r j hj] at hv
  injection hv with hv
  subst hv
  exact hc j (by omega)
 have hrun := run_copy_row (P := P) w dT sT o.type e g off D c ⟨g', off', none⟩ n c2 L.toArray t (b8s r) hu hsz hg (by rw [b8s_length, hrn]; exact (Nat.min_eq_left hn).symm) hsrc (by simp [b8s_length]; omega) (b8s_one r)
 refine ⟨.int .i64 ((n : Nat) : Int), w.setRow g (splice L off (b8s r)).toArray, ?_, rfl, setRow_heap w g _ _ t _ hg, ⟨rfl, rfl, rfl, by simp [World.setRow], fun k hk ho => setRow_other _ _ _ _ (fun h => ho.1 h)⟩⟩
 unfold execOp
 simp only [ho, resolve, invoke, builtin, Sem.run_bind, Sem.run_pure, Result.andThen_ok, List.map_toArray, List.map_cons, List.map_nil, hs, hd, hrun, goInt, b8s_length, hrn]
 congr 2
 unfold splice
 simp [b8s_length, hrn]
theorem att_sp0 {k r t x : List UInt8} {n : Int} (hk : k.length = 32) (hx : x.length = 32) : splice (attC k r n t) 0 (b8s x) = attC x r n t := splice_mid (A := []) (B := b8s k) (C := b8s r ++ (.int .i64 n :: b8s t)) (vs := b8s x) rfl (by rw [b8s_length, b8s_length, hk, hx])
theorem att_sp32 {k r t x : List UInt8} {n : Int} (hk : k.length = 32) (hr : r.length = 32) (hx : x.length = 32) : splice (attC k r n t) 32 (b8s x) = attC k x n t := splice_mid (A := b8s k) (B := b8s r) (C := .int .i64 n :: b8s t) (vs := b8s x) (by rw [b8s_length, hk]) (by rw [b8s_length, b8s_length, hr, hx])
theorem att_sp65 {k r t x : List UInt8} {n : Int} (hk : k.length = 32) (hr : r.length = 32) (ht : t.length = 32) (hx : x.length = 32) : splice (attC k r n t) 65 (b8s x) = attC k r n x := by
 have := splice_mid (A := b8s k ++ (b8s r ++ [Value.int .i64 n])) (B := b8s t) (C := []) (vs := b8s x) (off := 65) (by simp [b8s_length, hk, hr]) (by rw [b8s_length, b8s_length, hx, ht])
 simpa [attC] using this
theorem store_len (ty : TypeId) (x y : Operand) (ho : o.op = .store ty x y) (hi : (P.info? ty).map (·.size) = some 1) (g : Nat) (hx : a.eval x = .pointer (some ⟨g, 64, none⟩)) (m : Int) (hy : a.eval y = .int .i64 m)
  (T : TypeId) (k r t : List UInt8) (n : Int) (hk : k.length = 32) (hr : r.length = 32) (ht : t.length = 32) (hg : w.heap[g]? = some (.cells (attC k r n t).toArray T (0, 0))) :
  ∃ w', (execOp a.eval o).run P w = .ok .skip w' ∧ w'.heap[g]? = some (.cells (attC k r m t).toArray T (0, 0)) ∧ Chg [g] w w' := by
 obtain ⟨w', h1, h2, h3⟩ := store1 (P := P) ty x y ho hi g 64 hx _ hy rfl T _ hg (by rw [List.size_toArray, attC_length hk hr ht]; omega)
 refine ⟨w', h1, ?_, h3⟩
 rw [h2, List.setIfInBounds_toArray]
 congr 3
 unfold attC
 rw [← List.append_assoc, List.set_append_right _ _ (by rw [List.length_append, b8s_length, b8s_length, hk, hr]; omega), List.length_append, b8s_length, b8s_length, hk, hr]
 simp
theorem shl8_64 (t ty : TypeId) (x y : Operand) (ho : o.op = .binOp .shl t x y ty) (u : Nat) (yk : IntKind) (hx : a.eval x = .int .u64 ((u : Nat) : Int)) (hy : a.eval y = .int yk ((8 : Nat) : Int)) (hu : u < 72057594037927936) : (execOp a.eval o).run P w = .ok (.value (.int .u64 ((u * 256 : Nat) : Int))) w := by
 have key : (Op.shift .shl .u64 ((u : Nat) : Int) yk ((8 : Nat) : Int)).run P w = .ok (.int .u64 ((u * 256 : Nat) : Int)) w := by
  have h1 : IntKind.u64.wrap (((u : Nat) : Int) * 2 ^ 8) = ((u * 256 : Nat) : Int) := by
   have : ((u : Nat) : Int) * 2 ^ 8 = ((u * 256 : Nat) : Int) := by omega
   rw [this, u64_nat (by omega)]
  show Sem.run P (pure (Value.int .u64 (IntKind.u64.wrap (((u : Nat) : Int) * 2 ^ 8))) : Sem Value) w = _
  rw [h1]
  rfl
 have hg : (eqGuard .shl t x y (.int .u64 ((u : Nat) : Int)) (.int yk ((8 : Nat) : Int))).run P w = .ok () w := rfl
 have key2 : (binOp .shl t (.int .u64 ((u : Nat) : Int)) (.int yk ((8 : Nat) : Int))).run P w = .ok (.int .u64 ((u * 256 : Nat) : Int)) w := key
 unfold execOp
 simp only [ho, hx, hy]
 simp only [Sem.run_bind, Sem.run_pure, hg, Result.andThen_ok, key2]
theorem or_byte (u b : Nat) (hb : b < 256) : u * 256 ||| b = u * 256 + b := by
 have := Nat.two_pow_add_eq_or_of_lt (i := 8) (b := b) (by simpa using hb) u
 rw [Nat.mul_comm]
 exact this.symm
theorem or64 (t ty : TypeId) (x y : Operand) (ho : o.op = .binOp .or t x y ty) (u b : Nat) (hx : a.eval x = .int .u64 ((u * 256 : Nat) : Int)) (hy : a.eval y = .int .u64 ((b : Nat) : Int)) (hb : b < 256) (hu : u < 72057594037927936) : (execOp a.eval o).run P w = .ok (.value (.int .u64 ((u * 256 + b : Nat) : Int))) w := by
 have hbits : bits .or .u64 ((u * 256 : Nat) : Int) ((b : Nat) : Int) = ((u * 256 + b : Nat) : Int) := by
  show IntKind.u64.wrap ((BitVec.ofInt 64 ((u * 256 : Nat) : Int) ||| BitVec.ofInt 64 ((b : Nat) : Int)).toNat : Int) = _
  rw [BitVec.ofInt_natCast, BitVec.ofInt_natCast, BitVec.toNat_or, BitVec.toNat_ofNat, BitVec.toNat_ofNat, Nat.mod_eq_of_lt (by omega), Nat.mod_eq_of_lt (by omega), or_byte u b hb, u64_nat (by omega)]
 have key : (binOp .or t (.int .u64 ((u * 256 : Nat) : Int)) (.int .u64 ((b : Nat) : Int))).run P w = .ok (.int .u64 (bits .or .u64 ((u * 256 : Nat) : Int) ((b : Nat) : Int))) w := rfl
 have hg : (eqGuard .or t x y (.int .u64 ((u * 256 : Nat) : Int)) (.int .u64 ((b : Nat) : Int))).run P w = .ok () w := rfl
 rw [hbits] at key
 unfold execOp
 simp only [ho, hx, hy]
 simp only [Sem.run_bind, Sem.run_pure, hg, Result.andThen_ok, key]
end
def be8 (e : List UInt8) : Nat :=
 (((((((0 * 256 + (e.getD 0 0).toNat) * 256 + (e.getD 1 0).toNat) * 256 + (e.getD 2 0).toNat) * 256 + (e.getD 3 0).toNat) * 256 + (e.getD 4 0).toNat) * 256 + (e.getD 5 0).toNat) * 256 + (e.getD 6 0).toNat) * 256 + (e.getD 7 0).toNat
end Mur
namespace Mur
open Go
theorem may_u64 {n : Int} (h : may n) : u64n n < 5001 ∧ ((u64n n : Nat) : Int) = n := by
 have h1 : IntKind.u64.wrap n = n % 18446744073709551616 := rfl
 unfold may at h
 unfold u64n
 rw [h1]
 omega
end Mur
namespace Mur
open Go Go.RowKit Wk
open Go.Lib (compareBytes)
section
variable {P : Program} {w : World} {a : Act} {o : Oper}
theorem ext_run {w1 : World} (f : FuncId) (xs : List Operand) (ts : Array TypeId) (vals : List Value) (ho : o.op = .call { callee := .value (.func f), args := xs.toArray, argTypes := ts }) (hv : xs.map a.eval = vals) {v : Value} (h : (callFunc f vals.toArray).run P w = .ok (.value v) w1) : (execOp a.eval o).run P w = .ok (.value v) w1 := by
 obtain ⟨dst, op, ty, pos, after, guard⟩ := o
 simp only at ho
 subst ho
 rw [execOp_call_go, List.map_toArray, hv, show #[] ++ vals.toArray ++ #[] = vals.toArray by simp, h]
theorem run_nz {f : FuncId} {fn : Func} (ps : Array TypeId) (t e : TypeId) (hf : P.funcs[f]? = some fn) (hname : (fn.name == "runtime.NumGoroutine") = false) (hb : fn.body.isNone = true) (hn : Extern.findNext fn = none) (he : Extern.find fn = some (Extern.BytealgMakeNoZero.makeNoZero ps #[t]))
  (ht : P.underlying t = some (.slice e)) (x : Operand) (ts : Array TypeId) (ho : o.op = .call { callee := .value (.func f), args := #[x], argTypes := ts }) (n : Nat) (hx : a.eval x = .int .i64 ((n : Nat) : Int)) (hm : n ≤ 1000) :
  ∃ v1 w1, (execOp a.eval o).run P w = .ok (.value v1) w1 ∧ ∃ cs : List Value, v1 = .slice (some ⟨w.heap.size, 0, none⟩) n cs.length ∧ w1.heap[w.heap.size]? = some (.cells cs.toArray e (0, 0)) ∧ n ≤ cs.length ∧ Chg [] w w1 ∧ w.heap.size < w1.heap.size := by
 obtain ⟨cs, h1, h2, _⟩ := Lib.run_makeNoZero (P := P) (w := w) ps t e ht n (by omega)
 refine ⟨_, _, ext_run f [x] ts [.int .i64 ((n : Nat) : Int)] ho (by simp [hx]) (by rw [run_callFunc_extern hf hname hb hn he]; show ((Extern.BytealgMakeNoZero.makeNoZero ps #[t] #[.int .i64 n]).run P w).andThen _ = _; rw [h1]; rfl), cs.toList, by simp, by simpa using heap_alloc_new w.drew.drew _, by simpa using h2, ?_, by simp⟩
 exact ⟨rfl, rfl, rfl, by simp, fun k hk _ => Below.heap_alloc w.drew.drew _ k hk⟩
theorem run_loadBytes {g : Nat} : ∀ (l : List UInt8) (off : Nat) (acc : ByteArray), (∀ j, j < l.length → w.cell? ⟨g, off + j, none⟩ = some (.int .u8 ((l.getD j 0).toNat : Int))) → (Extern.Bytes.loadBytes ⟨g, off, none⟩ l.length acc).run P w = .ok ⟨acc.data ++ l.toArray⟩ w
 | [], off, acc, _ => by simp [Extern.Bytes.loadBytes]
 | x :: l, off, acc, h => by
  have h0 := h 0 (by simp)
  have hadd : (⟨g, off, none⟩ : Addr).add 1 = ⟨g, off + 1, none⟩ := Addr.add_mid g off 1
  have hl : (load ⟨g, off, none⟩).run P w = .ok (.int .u8 ((x.toNat : Nat) : Int)) w := by
   have : w.cell? ⟨g, off, none⟩ = some (.int .u8 ((x.toNat : Nat) : Int)) := by simpa using h0
   simp [load, Sem.run, this]
  have ih := run_loadBytes l (off + 1) (acc.push x) (fun j hj => by
   have := h (j + 1) (by simp; omega)
   rw [show off + 1 + j = off + (j + 1) by omega, this]
   simp)
  have hx : (((x.toNat : Nat) : Int).toNat.toUInt8) = x := by simp
  simp only [List.length_cons, Extern.Bytes.loadBytes, Sem.run_bind, hl, Result.andThen_ok, hadd, hx, ih]
  congr 1
  simp [ByteArray.push]
theorem run_bytesOf {A : Option Addr} {n c : Nat} {l : List UInt8} (h : Byt w A n l) : (Extern.Bytes.bytesOf (.slice A n c)).run P w = .ok ⟨l.toArray⟩ w := by
 obtain ⟨hl, hc⟩ := h
 rcases Nat.eq_zero_or_pos n with h0 | h0
 ·subst h0
  obtain rfl : l = [] := List.eq_nil_of_length_eq_zero hl
  cases A with
  | none => rfl
  | some ad => simp [Extern.Bytes.bytesOf, Extern.Bytes.loadBytes]; rfl
 ·obtain ⟨g, off, rfl, hcell⟩ := hc h0
  have := run_loadBytes (P := P) (w := w) (g := g) l off .empty (fun j hj => hcell j (by omega))
  rw [hl] at this
  simpa [Extern.Bytes.bytesOf] using this
theorem run_cmp {f : FuncId} {fn : Func} (hf : P.funcs[f]? = some fn) (hname : (fn.name == "runtime.NumGoroutine") = false) (hb : fn.body.isNone = true) (hn : Extern.findNext fn = none) (he : Extern.find fn = some Extern.BytealgCompare.compare)
  (x y : Operand) (ts : Array TypeId) (ho : o.op = .call { callee := .value (.func f), args := #[x, y], argTypes := ts }) (A : Option Addr) (n c : Nat) (l : List UInt8) (B : Option Addr) (m d : Nat) (r : List UInt8) (hx : a.eval x = .slice A n c) (hy : a.eval y = .slice B m d) (h1 : Byt w A n l) (h2 : Byt w B m r) :
  (execOp a.eval o).run P w = .ok (.value (.int .i64 (compareBytes l r))) w := by
 have key : (Extern.BytealgCompare.compare #[.slice A n c, .slice B m d]).run P w = .ok (.int .i64 (compareBytes l r)) w := by
  change Sem.run P (do pure (goInt (Extern.BytealgCompare.cmp (← Extern.Bytes.bytesOf (.slice A n c)) (← Extern.Bytes.bytesOf (.slice B m d))))) w = _
  simp only [Sem.run_bind, run_bytesOf h1, run_bytesOf h2, Result.andThen_ok, Sem.run_pure, Lib.cmp_eq, goInt]
 exact ext_run f [x, y] ts [.slice A n c, .slice B m d] ho (by simp [hx, hy]) (by rw [run_callFunc_extern hf hname hb hn he]; show ((Extern.BytealgCompare.compare #[.slice A n c, .slice B m d]).run P w).andThen _ = _; rw [key]; rfl)
theorem copy_none (d s : Operand) (dT sT : TypeId) (ho : o.op = .call { callee := .builtin .copy, args := #[d, s], argTypes := #[dT, sT] }) (e : TypeId) (hu : P.underlying dT = some (.slice e)) (hsz : (P.info? e).map (·.size) = some 1) (ad : Addr) (D c : Nat) (hd : a.eval d = .slice (some ad) D c) (hs : a.eval s = .slice none 0 0) :
  (execOp a.eval o).run P w = .ok (.value (.int .i64 0)) w := by
 have := run_copy_nil (P := P) w dT sT o.type e ad D c hu (by rw [hsz]; rfl)
 unfold execOp
 simp only [ho, resolve, invoke, builtin, Sem.run_bind, Sem.run_pure, Result.andThen_ok, List.map_toArray, List.map_cons, List.map_nil, hs, hd, this, goInt]
end
theorem fill_step {cs : List Value} {acc r : List UInt8} {p m q : Nat} (ha : acc.length = p) (hr : r.length = m) (hq : p + m = q) (hl : q ≤ cs.length) : splice (b8s acc ++ cs.drop p) p (b8s r) = b8s (acc ++ r) ++ cs.drop q := by
 subst hq
 unfold splice
 rw [List.take_left' (by rw [b8s_length, ha]), b8s_append, b8s_length, hr, List.append_assoc]
 congr 2
 rw [← List.drop_drop, List.drop_left' (by rw [b8s_length, ha]), List.drop_drop]
theorem fill_len {cs : List Value} {acc : List UInt8} {p : Nat} (ha : acc.length = p) (hl : p ≤ cs.length) : (b8s acc ++ cs.drop p).length = cs.length := by
 rw [List.length_append, b8s_length, List.length_drop, ha]
 omega
theorem byt_fill {w : World} {g n : Nat} {t : TypeId} {fr : Nat × Nat} {l : List UInt8} {cs : List Value} (h : w.heap[g]? = some (.cells (b8s l ++ cs).toArray t fr)) (hl : l.length = n) : Byt w (some ⟨g, 0, none⟩) n l := byt_rng (range_sub 0 (b8s l) h (by simp)) hl
def rawL (k r : List UInt8) (n : Int) (t : List UInt8) : List UInt8 := ((k ++ r) ++ e8 (u64n n)) ++ t
theorem e8_be' (u : Nat) (h : u < 18446744073709551616) : be8 (e8 u) = u := by
 have q : ∀ x : Nat, (UInt8.ofNat x).toNat = x % 256 := fun x => by simp
 simp only [be8, e8, List.getD_cons_zero, List.getD_cons_succ, q]
 omega
theorem u64n_inj {n n' : Int} (h1 : -9223372036854775808 ≤ n ∧ n ≤ 9223372036854775807) (h2 : -9223372036854775808 ≤ n' ∧ n' ≤ 9223372036854775807) (h : u64n n = u64n n') : n = n' := by
 have e1 : IntKind.u64.wrap n = n % 18446744073709551616 := rfl
 have e2 : IntKind.u64.wrap n' = n' % 18446744073709551616 := rfl
 unfold u64n at h
 rw [e1, e2] at h
 omega
theorem wf_bounds {n : Int} (h : (Lit.int .i64 n).wf = true) : -9223372036854775808 ≤ n ∧ n ≤ 9223372036854775807 := by
 have h3 : IntKind.i64.min = -9223372036854775808 := by decide
 have h4 : IntKind.i64.max = 9223372036854775807 := by decide
 simpa only [Lit.wf, h3, h4, Bool.and_eq_true, decide_eq_true_eq] using h
theorem rawL_inj {k r t k' r' t' : List UInt8} {n n' : Int} (hk : k.length = 32) (hr : r.length = 32) (hk' : k'.length = 32) (hr' : r'.length = 32) (hn : (Lit.int .i64 n).wf = true) (hn' : (Lit.int .i64 n').wf = true) : rawL k r n t = rawL k' r' n' t' ↔ k = k' ∧ r = r' ∧ n = n' ∧ t = t' := by
 constructor
 ·intro h
  unfold rawL at h
  simp only [List.append_assoc] at h
  have h2 := List.append_inj h (by rw [hk, hk'])
  have h3 := List.append_inj h2.2 (by rw [hr, hr'])
  have h4 := List.append_inj h3.2 (by rw [e8_length, e8_length])
  have h5 := congrArg be8 h4.1
  rw [e8_be' _ (u64n_lt n), e8_be' _ (u64n_lt n')] at h5
  exact ⟨h2.1, h3.1, u64n_inj (wf_bounds hn) (wf_bounds hn') h5, h4.2⟩
 ·rintro ⟨rfl, rfl, rfl, rfl⟩
  rfl
theorem cmp_self : ∀ l : List UInt8, compareBytes l l = 0
 | [] => rfl
 | x :: l => by
  unfold compareBytes
  rw [if_neg (UInt8.lt_irrefl x), if_neg (UInt8.lt_irrefl x)]
  exact cmp_self l
theorem cmp_flip : ∀ l r : List UInt8, compareBytes r l = - compareBytes l r
 | [], [] => rfl
 | [], _ :: _ => rfl
 | _ :: _, [] => rfl
 | x :: l, y :: r => by
  unfold compareBytes
  by_cases h1 : x < y
  ·have h2 : ¬ y < x := UInt8.lt_asymm h1
   rw [if_neg h2, if_pos h1, if_pos h1]
   rfl
  ·by_cases h2 : y < x
   ·rw [if_pos h2, if_neg h1, if_pos h2]
   ·rw [if_neg h2, if_neg h1, if_neg h1, if_neg h2]
    exact cmp_flip l r
theorem cmp_zero : ∀ l r : List UInt8, compareBytes l r = 0 → l = r
 | [], [], _ => rfl
 | [], _ :: _, h => by cases h
 | _ :: _, [], h => by cases h
 | x :: l, y :: r, h => by
  unfold compareBytes at h
  by_cases h1 : x < y
  ·rw [if_pos h1] at h; cases h
  ·rw [if_neg h1] at h
   by_cases h2 : y < x
   ·rw [if_pos h2] at h; cases h
   ·rw [if_neg h2] at h
    have : x = y := UInt8.le_antisymm (UInt8.not_lt.1 h2) (UInt8.not_lt.1 h1)
    rw [this, cmp_zero l r h]
theorem cmp_trans : ∀ l r s : List UInt8, compareBytes l r < 0 → compareBytes r s < 0 → compareBytes l s < 0
 | [], [], _, h, _ => by simp [compareBytes] at h
 | [], _ :: _, [], _, h => by simp [compareBytes] at h
 | [], _ :: _, _ :: _, _, _ => by simp [compareBytes]
 | _ :: _, [], _, h, _ => by simp [compareBytes] at h
 | _ :: _, _ :: _, [], _, h => by simp [compareBytes] at h
 | x :: l, y :: r, z :: s, h1, h2 => by
  unfold compareBytes at h1 h2 ⊢
  by_cases a1 : x < y
  ·by_cases a2 : y < z
   ·rw [if_pos (UInt8.lt_trans a1 a2)]; decide
   ·rw [if_neg a2] at h2
    by_cases a3 : z < y
    ·rw [if_pos a3] at h2; exact absurd h2 (by decide)
    ·have : y = z := UInt8.le_antisymm (UInt8.not_lt.1 a3) (UInt8.not_lt.1 a2)
     subst this
     rw [if_pos a1]; decide
  ·rw [if_neg a1] at h1
   by_cases a2 : y < x
   ·rw [if_pos a2] at h1; exact absurd h1 (by decide)
   ·rw [if_neg a2] at h1
    have : x = y := UInt8.le_antisymm (UInt8.not_lt.1 a2) (UInt8.not_lt.1 a1)
    subst this
    by_cases a3 : x < z
    ·rw [if_pos a3]; decide
    ·rw [if_neg a3] at h2 ⊢
     by_cases a4 : z < x
     ·rw [if_pos a4] at h2; exact absurd h2 (by decide)
     ·rw [if_neg a4] at h2 ⊢
      exact cmp_trans l r s h1 h2
end Mur
namespace Mur
open Go Go.RowKit Wk
open Go.Lib (compareBytes)
theorem less_cmp : ∀ l r : List UInt8, Op.bytesLess l r = decide (compareBytes l r < 0)
 | [], [] => rfl
 | [], _ :: _ => rfl
 | _ :: _, [] => rfl
 | x :: l, y :: r => by
  unfold compareBytes Op.bytesLess
  by_cases h1 : x < y
  ·rw [if_pos h1, decide_eq_true h1]
   rfl
  ·rw [if_neg h1, decide_eq_false h1]
   by_cases h2 : y < x
   ·have h3 : (x == y) = false := by
     rw [beq_eq_false_iff_ne]
     rintro rfl
     exact UInt8.lt_irrefl x h2
    rw [if_pos h2, h3]
    rfl
   ·have : x = y := UInt8.le_antisymm (UInt8.not_lt.1 h2) (UInt8.not_lt.1 h1)
    rw [if_neg h2, this, less_cmp l r]
    simp
theorem strlss {P : Program} {w : World} {a : Act} {o : Oper} (t ty : TypeId) (x y : Operand) (ho : o.op = .binOp .lss t x y ty) (l r : List UInt8) (hx : a.eval x = .string (str l)) (hy : a.eval y = .string (str r)) : (execOp a.eval o).run P w = .ok (.value (.bool (decide (compareBytes l r < 0)))) w := by
 have hg : (eqGuard .lss t x y (.string (str l)) (.string (str r))).run P w = .ok () w := rfl
 unfold execOp
 simp only [ho, hx, hy]
 simp only [binOp_string_lss, Sem.run_bind, Sem.run_pure, hg, Result.andThen_ok, str_toList, less_cmp]
end Mur
namespace Go.Proofs.YtgbadghjnpbiaaaGreatDoor
open Go.RowKit
open Mur (St w32 u32s cell_u32s free_row set_u32s b8s dgV Byt cutA)
set_option maxRecDepth 100000
theorem Sum_var (b : List UInt8) (A : Option Addr) (n c : Nat) (w : World) (hv : ShaVars w) (hb : Byt w A n b) (hnc : n ≤ c) (hA : A = none → c = 0) (hn : n ≤ 140737488351232) :
  Calls Tryz.prog 80 #[.slice A n c] w fun e w' => ∃ d, Hid (d = Mur.sha b) ∧ d.length = 32 ∧ e = .returned (.agg (b8s d).toArray) ∧ Below w.heap.size w w' := by
 have HV := Go.Lib.hid hv; clear hv
 have HB := Go.Lib.hid hb; clear hb
 have HA := Go.Lib.hid hA; clear hA
 have hz := dgV_size (show (List.replicate 32 (0 : UInt8)).length = 32 by rfl)
 have HZ := Go.Lib.hid hz; clear hz
 go_enter Tryz.func80, Tryz.ntmps80
 have hb1 : ∀ o, Below w.heap.size w (w.alloc o) := fun o => (Below.refl _ _).alloc (Nat.le_refl _) o
 have HB1 := Go.Lib.hid hb1; clear hb1
 go_wp2_with (first
  | (go_at_call 98; refine (sum_var b A n c _ (HV.out.below (HB1.out _)) (HB.out.below (HB1.out _)) hnc HA.out hn).mono ?_; rintro e w2 ⟨d, hd, hdl, rfl, hB2⟩; have hDZ := Go.Lib.hid (dgV_size hdl); clear hdl)
  | (refine wpList_store_row rfl 28 (.tmp 2) (.tmp 4) rfl w.heap.size (b8s d).toArray rfl rfl 28 (b8s (List.replicate 32 0)).toArray (Mur.hp_below hB2 (Mur.hp_a1 _ _)) (by rw [hDZ.out]; kernel_rfl) (by rw [HZ.out, hDZ.out]) (Mur.b8s_all _) ?_))
 refine bodyPost_ret (v := .agg (b8s d).toArray) (results_cell_row rfl _ _ w.heap.size 28 (b8s d).toArray (0, 0) _ rfl (setRow_heap _ _ _ _ _ _ (Mur.hp_below hB2 (Mur.hp_a1 _ _))) Tryz.underlying28 rfl (by rw [hDZ.out]; kernel_rfl)) rfl ⟨d, hd, by simpa [Mur.b8s_length] using hDZ.out, rfl, below_setRow ((HB1.out _).trans (hB2.mono (by simp))) (Nat.le_refl _) _⟩
end Go.Proofs.YtgbadghjnpbiaaaGreatDoor
namespace Go.Proofs.YtgbadghjnpbiaaaGreatDoor
open Go.RowKit Wk
open Mur (b8s Byt Own8 Seg Segs flat cutA)
set_option maxRecDepth 100000
set_option maxHeartbeats 4000000
def With_F1 (b : Array Value) (u1 u2 u4 u6 : Value) : Act := sg 17 [(1, u1), (2, u2), (4, u4), (6, u6)] b
theorem key_any (s : List UInt8) (A : Option Addr) (n c : Nat) (w : World) (hv : ShaVars w) (hb : Byt w A n s) (hnc : n ≤ c) (ha : A = none → c = 0) (hn : n ≤ 140737488351232) : Calls Tryz.prog 78 #[.slice A n c] w fun e w' => ∃ d, Hid (d = Mur.hkey s) ∧ d.length = 64 ∧ e = .returned (.agg (b8s d).toArray) ∧ Chg [] w w' := by
 have HV := Go.Lib.hid hv
 clear hv
 have HB := Go.Lib.hid hb
 clear hb
 have HA := Go.Lib.hid ha
 clear ha
 refine calls_of_wp Tryz.func78 rfl ?_
 refine sR<|nW 0 2 Z64 120 fun W1 hb1 ch1 sz1 => eN<|wp_seq<|sR<|rP 0 4 (.slice A n c)<|rP 1 5 (vI n) ?_
 by_cases hx1 : (n : Int) > (64 : Int)
 ·refine bT 2 6 ((n : Int) > (64 : Int))<|eN<|cT<|sR<|rP 0 7 (.slice A n c) ?_
  have kk1 : Chg [] w W1 := zA ch1
  refine rK 1 8 (Sum_var s A n c W1 (HV.out.below (Chg.below0 kk1)) (Mur.byt_chg HB.out kk1 (fun g off e hl => trivial)) (by omega) HA.out (by omega)) ?_
  rintro _ W2 ⟨dd1, hd1, hdl1, rfl, hB1⟩
  have ch2 := Chg.ofBelow hB1
  have zz2 := ch2.size
  refine nW 2 3 Z32 28 fun W3 hb2 ch3 sz2 => rU 3 rfl (sC dd1 hdl1 hb2) fun W4 hb3 ch4 zz4 => eN<|reg<|rq 0 9 (.slice (some ⟨W2.heap.size, 0, none⟩) 32 32) rfl (Mur.arr_slice 28 5 (.tmp 3) 32 rfl Tryz.underlying28 (by kernel_rfl) W2.heap.size (by kernel_rfl))<|rP 1 0 (.slice (some ⟨W2.heap.size, 0, none⟩) 32 32)<|eN<|sR<|rq 0 10 (.slice (some ⟨w.heap.size, 0, none⟩) 64 64) rfl (Mur.arr_slice 120 5 (.tmp 2) 64 rfl Tryz.underlying120 (by kernel_rfl) w.heap.size (by kernel_rfl))<|rP 1 11 (.slice (some ⟨W2.heap.size, 0, none⟩) 32 32)<|rX 2 12 rfl rfl (Mur.copy8 (.tmp 10) (.tmp 11) 22 22 rfl 5 Tryz.underlying22 (by kernel_rfl) w.heap.size 64 64 (by kernel_rfl) (some ⟨W2.heap.size, 0, none⟩) 32 32 (by kernel_rfl) 120 (List.replicate 64 (0 : UInt8)) dd1 ((qO ch4 (qT ch3 (qT ch2 hb1)))) rfl (Mur.byt_blk dd1 hdl1 hb3) (by omega) (fun h => by cases h)) ?_
  rintro _ W5 ⟨rfl, hb4, ch5⟩
  have hcl1 : (dd1 ++ (List.replicate 64 (0 : UInt8)).drop 32).length = 64 := by have h1 := (Mur.byt_blk dd1 hdl1 hb3).1; have h2 : (List.replicate 64 (0 : UInt8)).length = 64 := (by simp); simp only [List.length_append, List.length_drop]; omega
  obtain ⟨cp1, hcp1⟩ : ∃ l, Hid (l = dd1 ++ (List.replicate 64 (0 : UInt8)).drop 32) := ⟨_, rfl⟩
  rw [← hcp1.out] at hb4 hcl1
  have zz5 := ch5.size
  refine eN<|sR<|rq 0 13 _ rfl (lB cp1 hcl1 hb4)<|rU 1 rfl (Mur.storeAll 120 (.tmp 2) (.tmp 13) rfl w.heap.size (by kernel_rfl) cp1 64 hcl1 (by kernel_rfl) (by kernel_rfl) 120 ((b8s cp1).toArray) hb4 (by rw [List.size_toArray, Mur.b8s_length, hcl1])) fun W6 hb5 ch6 zz6 => eN<|wp_ret<|?_
  exact retC rfl hb5 (by rw [List.size_toArray, Mur.b8s_length, hcl1]; kernel_rfl) ⟨_, Go.Lib.hid (hcp1.out.trans (Mur.key_big (by rw [HB.out.1]; omega) hd1.out)), hcl1, rfl, (kB (kB (kB (kA (kA kk1 ch2) ch3) ch4) ch5) ch6)⟩
 refine bF 2 6 ((n : Int) > (64 : Int))<|eN<|cF<|wp_skip<|nxt<|sR<|rq 0 10 (.slice (some ⟨w.heap.size, 0, none⟩) 64 64) rfl (Mur.arr_slice 120 5 (.tmp 2) 64 rfl Tryz.underlying120 (by kernel_rfl) w.heap.size (by kernel_rfl))<|rP 1 11 (.slice A n c) ?_
 have kk7 : Chg [] w W1 := zA ch1
 refine rX 2 12 rfl rfl (Mur.copy8 (.tmp 10) (.tmp 11) 22 22 rfl 5 Tryz.underlying22 (by kernel_rfl) w.heap.size 64 64 (by kernel_rfl) A n c (by kernel_rfl) 120 (List.replicate 64 (0 : UInt8)) s (hb1) rfl (Mur.byt_chg HB.out kk7 (fun g off e hl => trivial)) (by omega) HA.out) ?_
 rintro _ W7 ⟨rfl, hb6, ch7⟩
 have hcl2 : (s ++ (List.replicate 64 (0 : UInt8)).drop n).length = 64 := by have h1 := (Mur.byt_chg HB.out kk7 (fun g off e hl => trivial)).1; have h2 : (List.replicate 64 (0 : UInt8)).length = 64 := (by simp); simp only [List.length_append, List.length_drop]; omega
 obtain ⟨cp2, hcp2⟩ : ∃ l, Hid (l = s ++ (List.replicate 64 (0 : UInt8)).drop n) := ⟨_, rfl⟩
 rw [← hcp2.out] at hb6 hcl2
 have zz7 := ch7.size
 refine eN<|sR<|rq 0 13 _ rfl (lB cp2 hcl2 hb6)<|rU 1 rfl (Mur.storeAll 120 (.tmp 2) (.tmp 13) rfl w.heap.size (by kernel_rfl) cp2 64 hcl2 (by kernel_rfl) (by kernel_rfl) 120 ((b8s cp2).toArray) hb6 (by rw [List.size_toArray, Mur.b8s_length, hcl2])) fun W8 hb7 ch8 zz8 => eN<|wp_ret<|?_
 exact retC rfl hb7 (by rw [List.size_toArray, Mur.b8s_length, hcl2]; kernel_rfl) ⟨_, Go.Lib.hid (hcp2.out.trans (Mur.key_small HB.out.1 (by omega))), hcl2, rfl, (kB (kB kk7 ch7) ch8)⟩
theorem with_any (c : UInt8) (k : List UInt8) (hk : k.length = 64) (w : World) : Calls Tryz.prog 79 #[.agg (b8s k).toArray, vB c.toNat] w fun e w' => e = .returned (.agg (b8s (Mur.xorl c k)).toArray) ∧ Chg [] w w' := by
 refine calls_of_wp Tryz.func79 rfl ?_
 refine sR<|nW 0 2 ((b8s k).toArray) 120 fun W1 hb1 ch1 sz1 => nW 1 4 Z64 120 fun W2 hb2 ch2 sz2 => eN<|wp_seq<|sR<|rP 0 6 (vI 0)<|eN<|wp_block<|?_
 refine Wk.loop (fun m_ a wr => ∃ (i : Nat), m_ = 64 - i ∧ a = With_F1 a.tmps (vB c.toNat) (pw w 0) (pw W1 0) (vI i) ∧ i ≤ 64 ∧ wr.heap[w.heap.size]? = some (.cells (b8s (Mur.xorTo c k i)).toArray 120 (0, 0)) ∧ wr.heap[W1.heap.size]? = some (.cells Z64 120 (0, 0)) ∧ Chg [] w wr ∧ W1.heap.size < wr.heap.size) (64 - 0) ?_ ?_
 ·have kk1 : Chg [] w W1 := zA ch1
  refine ⟨0, rfl, by kernel_rfl, by omega, (by rw [Mur.xorTo_zero]; exact (qT ch2 hb1)), hb2, (kA kk1 ch2), (by omega)⟩
 rintro mm1 aa1 W3 ⟨i, hmm1, hF1, hi, hX, hZ, HB, hz4⟩
 generalize aa1.tmps = bb1 at hF1
 subst hF1
 have hxl : (Mur.xorTo c k i).length = 64 := by rw [Mur.xorTo_length, hk]
 by_cases hlt : i < 64
 ·refine sR<|bT 0 7 ((i : Int) < (64 : Int))<|eN<|wp_seq<|cT<|wp_skip<|nxt<|wp_seq<|wp_block<|sR<|rP 0 8 (vI i)<|rP 1 5 (vI i)<|eN<|reg<|rP 0 9 (vI i)<|rq 1 10 (pw w (0 + i * 1)) rfl (Wk.index_arr 120 5 (.tmp 2) (.tmp 9) rfl 64 Tryz.underlying120 1 (by kernel_rfl) w.heap.size 0 i .i64 (by kernel_rfl) (by kernel_rfl) (by omega))<|rq 2 11 _ rfl (ld 5 10 w.heap.size (0 + i * 1) (vB ((k.getD i 0).toNat : Nat)) (by rw [← Mur.xorTo_getD c k i (by omega)]; exact (Mur.blk_cell (Mur.xorTo c k i) hX i (by rw [hxl]; omega))))<|rP 3 12 (vB c.toNat)<|rq 4 13 (vB (((k.getD i 0) ^^^ c).toNat : Nat)) rfl (Mur.xor8 5 5 (.tmp 11) (.tmp 12) rfl (k.getD i 0) c (by kernel_rfl) (by kernel_rfl))<|rq 5 14 (pw w (0 + i * 1)) rfl (Wk.index_arr 120 5 (.tmp 2) (.tmp 9) rfl 64 Tryz.underlying120 1 (by kernel_rfl) w.heap.size 0 i .i64 (by kernel_rfl) (by kernel_rfl) (by omega))<|rU 6 rfl (Mur.store8 5 (.tmp 14) (.tmp 13) rfl (by kernel_rfl) w.heap.size i (by kernel_rfl) ((k.getD i 0) ^^^ c) (by kernel_rfl) 120 (Mur.xorTo c k i) hX (by rw [hxl]; omega)) fun W4 hb3 ch3 zz3 => rE<|inN<|nxt<|reg<|rI 0 15 ((i : Int) + 1) (((i + 1 : Nat) : Int))<|rP 1 6 (vI (i + 1 : Nat))<|eN<|?_
  refine ⟨_, ?_, i + 1, rfl, by kernel_rfl, (by omega), (by rw [← Mur.xorTo_set c k i (by omega)]; exact hb3), (qO ch3 hZ), (kB HB ch3), (by omega)⟩
  omega
 obtain rfl : i = 64 := by omega
 refine sR<|bF 0 7 (((64 : Nat) : Int) < (64 : Int))<|eN<|wp_seq<|cF<|xX<|nxt<|sR<|rq 0 16 _ rfl (lB (Mur.xorTo c k 64) hxl hX)<|rU 1 rfl (sC (Mur.xorTo c k 64) hxl hZ) fun W5 hb4 ch4 zz4 => eN<|wp_ret<|?_
 exact retC rfl hb4 (by rw [List.size_toArray, Mur.b8s_length, hxl]; kernel_rfl) ⟨by rw [Mur.xorTo_all c k hk], (kB HB ch4)⟩
end Go.Proofs.YtgbadghjnpbiaaaGreatDoor
namespace Go.Proofs.YtgbadghjnpbiaaaGreatDoor
open Go.RowKit Wk
open Mur (b8s Byt Own8 Seg Segs flat cutA)
set_option maxRecDepth 100000
set_option maxHeartbeats 4000000
def Tag_J2_1 (b : Array Value) (u1 u4 u6 u7 : Value) : Act := sg 39 [(1, u1), (4, u4), (6, u6), (7, u7)] b
def Tag_F1 (b : Array Value) (u4 u7 u8 u21 u22 u23 : Value) : Act := sg 39 [(4, u4), (7, u7), (8, u8), (21, u21), (22, u22), (23, u23)] b
theorem Tag_any (s : List UInt8) (A : Option Addr) (n c : Nat) (L : List Seg) (PA : Option Addr) (pn pc : Nat) (w : World) (hv : ShaVars w) (hb : Byt w A n s) (hnc : n ≤ c) (ha : A = none → c = 0) (hn : n ≤ 140737488351232) (hl : Segs w PA pn L) (hpn : pn ≤ 9223372036854775807) (hf : (flat L).length ≤ 140737488351000) : Calls Tryz.prog 51 #[.slice A n c, .slice PA pn pc] w fun e w' => ∃ d, Hid (d = Mur.hmac s (flat L)) ∧ d.length = 32 ∧ e = .returned (.agg (b8s d).toArray) ∧ Chg [] w w' := by
 have HV := Go.Lib.hid hv
 clear hv
 have HBY := Go.Lib.hid hb
 clear hb
 have HA := Go.Lib.hid ha
 clear ha
 have HL := Go.Lib.hid hl
 clear hl
 refine calls_of_wp Tryz.func51 rfl ?_
 refine sR<|nW 0 4 Z32 28 fun W1 hb1 ch1 sz1 => eN<|sR<|rP 0 12 (.slice A n c) ?_
 have kk1 : Chg [] w W1 := zA ch1
 refine rK 1 13 (key_any s A n c W1 (HV.out.below (Chg.below0 kk1)) (Mur.byt_chg HBY.out kk1 (fun g off e hl => trivial)) (by omega) HA.out (by omega)) ?_
 rintro _ W2 ⟨kx1, hd1, hdl1, rfl, ch2⟩
 have zz2 := ch2.size
 refine nW 2 5 Z64 120 fun W3 hb2 ch3 sz2 => rU 3 rfl (sC kx1 hdl1 hb2) fun W4 hb3 ch4 zz4 => eN<|wp_seq<|?_
 refine Wk.cut (fun a wj => ∃ (q6 : Nat) (q7 : Nat), a = Tag_J2_1 a.tmps (.slice PA pn pc) (pw w 0) (pt q6 0) (pt q7 0) ∧ Chg [] W4 wj ∧ wj.heap[q6]? = some (.cells (b8s (Mur.xorl 54 kx1)).toArray 120 (0, 0)) ∧ wj.heap[q7]? = some (.cells (b8s (Mur.xorl 92 kx1)).toArray 120 (0, 0)) ∧ W4.heap.size ≤ q6 ∧ W4.heap.size ≤ q7) ?_ ?_
 ·refine dReg ([]) (by kernel_rfl) ?_
  intro W5 ch5 sz3
  have zz5 := ch5.size
  have sS1 : Chg ([]) W5 W5 := (Chg.refl _).more (by simp)
  refine dV 0 14 _ rfl rfl (fun w' hw' => lB kx1 hdl1 (qT hw' (qT ch5 hb3))) sS1<|dV 2 16 _ rfl rfl (fun w' hw' => lB kx1 hdl1 (qT hw' (qT ch5 hb3))) sS1 ?_
  refine Wk.dOp3 1 4 5 (by kernel_rfl) ?_ ?_ ?_
  ·refine oK 15 (with_any 54 kx1 hdl1 W5) ?_
   rintro _ W6 ⟨rfl, ch6⟩
   have zz6 := ch6.size
   have sS2 := kA sS1 ch6
   refine aN sS2 ?_
   refine Wk.dOp3 3 4 5 (by kernel_rfl) ?_ ?_ ?_
   ·refine oK 17 (with_any 92 kx1 hdl1 W6) ?_
    rintro _ W7 ⟨rfl, ch7⟩
    have zz7 := ch7.size
    have sS3 := kA sS2 ch7
    refine aN sS3 ?_
    refine dOp2 4 5 (by kernel_rfl) ?_ ?_
    ·refine oN 6 Z64 120 fun W8 hb4 ch8 sz4 => ?_
     have sS4 := kA sS3 ch8
     refine aN sS4<|dO 5<|oN 7 Z64 120 fun W9 hb5 ch9 sz5 => ?_
     have sS5 := kA sS4 ch9
     refine aN sS5<|dO 6<|oU rfl (sC (Mur.xorl 54 kx1) (by rw [Mur.xorl_length, hdl1]) (qT ch9 hb4)) fun W10 hb6 ch10 zz10 => ?_
     have sS6 := kB sS5 ch10
     refine aN sS6<|dO 7<|oU rfl (sC (Mur.xorl 92 kx1) (by rw [Mur.xorl_length, hdl1]) (qO ch10 hb5)) fun W11 hb7 ch11 zz11 => ?_
     have sS7 := kB sS6 ch11
     refine aN sS7<|dN<|?_
     exact ⟨W7.heap.size, W8.heap.size, by kernel_rfl, (Chg.step (Chg.step (Chg.step (Chg.step (Chg.step (Chg.step (Chg.step ((Chg.refl _).more (by simp) : Chg [] W4 W4) ch5 trivial) ch6 trivial) ch7 trivial) ch8 trivial) ch9 trivial) ch10 ⟨.inr (by omega), trivial⟩) ch11 ⟨.inr (by omega), trivial⟩), (qO ch11 hb6), hb7, ⟨by omega, by omega⟩⟩
    refine oN 7 Z64 120 fun W12 hb8 ch12 sz6 => ?_
    have sS8 := kA sS3 ch12
    refine aN sS8<|dO 4<|oN 6 Z64 120 fun W13 hb9 ch13 sz7 => ?_
    have sS9 := kA sS8 ch13
    refine aN sS9<|dO 6<|oU rfl (sC (Mur.xorl 54 kx1) (by rw [Mur.xorl_length, hdl1]) hb9) fun W14 hb10 ch14 zz14 => ?_
    have sS10 := kB sS9 ch14
    refine aN sS10<|dO 7<|oU rfl (sC (Mur.xorl 92 kx1) (by rw [Mur.xorl_length, hdl1]) (qO ch14 (qT ch13 hb8))) fun W15 hb11 ch15 zz15 => ?_
    have sS11 := kB sS10 ch15
    refine aN sS11<|dN<|?_
    exact ⟨W12.heap.size, W7.heap.size, by kernel_rfl, (Chg.step (Chg.step (Chg.step (Chg.step (Chg.step (Chg.step (Chg.step ((Chg.refl _).more (by simp) : Chg [] W4 W4) ch5 trivial) ch6 trivial) ch7 trivial) ch12 trivial) ch13 trivial) ch14 ⟨.inr (by omega), trivial⟩) ch15 ⟨.inr (by omega), trivial⟩), (qO ch15 hb10), hb11, ⟨by omega, by omega⟩⟩
   ·refine oN 6 Z64 120 fun W16 hb12 ch16 sz8 => ?_
    have sS12 := kA sS2 ch16
    refine aN sS12 ?_
    refine dOp2 3 5 (by kernel_rfl) ?_ ?_
    ·refine oK 17 (with_any 92 kx1 hdl1 W16) ?_
     rintro _ W17 ⟨rfl, ch17⟩
     have zz17 := ch17.size
     have sS13 := kA sS12 ch17
     refine aN sS13<|dO 5<|oN 7 Z64 120 fun W18 hb13 ch18 sz9 => ?_
     have sS14 := kA sS13 ch18
     refine aN sS14<|dO 6<|oU rfl (sC (Mur.xorl 54 kx1) (by rw [Mur.xorl_length, hdl1]) (qT ch18 (qT ch17 hb12))) fun W19 hb14 ch19 zz19 => ?_
     have sS15 := kB sS14 ch19
     refine aN sS15<|dO 7<|oU rfl (sC (Mur.xorl 92 kx1) (by rw [Mur.xorl_length, hdl1]) (qO ch19 hb13)) fun W20 hb15 ch20 zz20 => ?_
     have sS16 := kB sS15 ch20
     refine aN sS16<|dN<|?_
     exact ⟨W6.heap.size, W17.heap.size, by kernel_rfl, (Chg.step (Chg.step (Chg.step (Chg.step (Chg.step (Chg.step (Chg.step ((Chg.refl _).more (by simp) : Chg [] W4 W4) ch5 trivial) ch6 trivial) ch16 trivial) ch17 trivial) ch18 trivial) ch19 ⟨.inr (by omega), trivial⟩) ch20 ⟨.inr (by omega), trivial⟩), (qO ch20 hb14), hb15, ⟨by omega, by omega⟩⟩
    refine oN 7 Z64 120 fun W21 hb16 ch21 sz10 => ?_
    have sS17 := kA sS12 ch21
    refine aN sS17<|dO 3<|oK 17 (with_any 92 kx1 hdl1 W21) ?_
    rintro _ W22 ⟨rfl, ch22⟩
    have zz22 := ch22.size
    have sS18 := kA sS17 ch22
    refine aN sS18<|dO 6<|oU rfl (sC (Mur.xorl 54 kx1) (by rw [Mur.xorl_length, hdl1]) (qT ch22 (qT ch21 hb12))) fun W23 hb17 ch23 zz23 => ?_
    have sS19 := kB sS18 ch23
    refine aN sS19<|dO 7<|oU rfl (sC (Mur.xorl 92 kx1) (by rw [Mur.xorl_length, hdl1]) (qO ch23 (qT ch22 hb16))) fun W24 hb18 ch24 zz24 => ?_
    have sS20 := kB sS19 ch24
    refine aN sS20<|dN<|?_
    exact ⟨W6.heap.size, W16.heap.size, by kernel_rfl, (Chg.step (Chg.step (Chg.step (Chg.step (Chg.step (Chg.step (Chg.step ((Chg.refl _).more (by simp) : Chg [] W4 W4) ch5 trivial) ch6 trivial) ch16 trivial) ch21 trivial) ch22 trivial) ch23 ⟨.inr (by omega), trivial⟩) ch24 ⟨.inr (by omega), trivial⟩), (qO ch24 hb17), hb18, ⟨by omega, by omega⟩⟩
   refine oN 7 Z64 120 fun W25 hb19 ch25 sz11 => ?_
   have sS21 := kA sS2 ch25
   refine aN sS21 ?_
   refine dOp2 3 4 (by kernel_rfl) ?_ ?_
   ·refine oK 17 (with_any 92 kx1 hdl1 W25) ?_
    rintro _ W26 ⟨rfl, ch26⟩
    have zz26 := ch26.size
    have sS22 := kA sS21 ch26
    refine aN sS22<|dO 4<|oN 6 Z64 120 fun W27 hb20 ch27 sz12 => ?_
    have sS23 := kA sS22 ch27
    refine aN sS23<|dO 6<|oU rfl (sC (Mur.xorl 54 kx1) (by rw [Mur.xorl_length, hdl1]) hb20) fun W28 hb21 ch28 zz28 => ?_
    have sS24 := kB sS23 ch28
    refine aN sS24<|dO 7<|oU rfl (sC (Mur.xorl 92 kx1) (by rw [Mur.xorl_length, hdl1]) (qO ch28 (qT ch27 (qT ch26 hb19)))) fun W29 hb22 ch29 zz29 => ?_
    have sS25 := kB sS24 ch29
    refine aN sS25<|dN<|?_
    exact ⟨W26.heap.size, W6.heap.size, by kernel_rfl, (Chg.step (Chg.step (Chg.step (Chg.step (Chg.step (Chg.step (Chg.step ((Chg.refl _).more (by simp) : Chg [] W4 W4) ch5 trivial) ch6 trivial) ch25 trivial) ch26 trivial) ch27 trivial) ch28 ⟨.inr (by omega), trivial⟩) ch29 ⟨.inr (by omega), trivial⟩), (qO ch29 hb21), hb22, ⟨by omega, by omega⟩⟩
   refine oN 6 Z64 120 fun W30 hb23 ch30 sz13 => ?_
   have sS26 := kA sS21 ch30
   refine aN sS26<|dO 3<|oK 17 (with_any 92 kx1 hdl1 W30) ?_
   rintro _ W31 ⟨rfl, ch31⟩
   have zz31 := ch31.size
   have sS27 := kA sS26 ch31
   refine aN sS27<|dO 6<|oU rfl (sC (Mur.xorl 54 kx1) (by rw [Mur.xorl_length, hdl1]) (qT ch31 hb23)) fun W32 hb24 ch32 zz32 => ?_
   have sS28 := kB sS27 ch32
   refine aN sS28<|dO 7<|oU rfl (sC (Mur.xorl 92 kx1) (by rw [Mur.xorl_length, hdl1]) (qO ch32 (qT ch31 (qT ch30 hb19)))) fun W33 hb25 ch33 zz33 => ?_
   have sS29 := kB sS28 ch33
   refine aN sS29<|dN<|?_
   exact ⟨W25.heap.size, W6.heap.size, by kernel_rfl, (Chg.step (Chg.step (Chg.step (Chg.step (Chg.step (Chg.step (Chg.step ((Chg.refl _).more (by simp) : Chg [] W4 W4) ch5 trivial) ch6 trivial) ch25 trivial) ch30 trivial) ch31 trivial) ch32 ⟨.inr (by omega), trivial⟩) ch33 ⟨.inr (by omega), trivial⟩), (qO ch33 hb24), hb25, ⟨by omega, by omega⟩⟩
  ·refine oN 6 Z64 120 fun W34 hb26 ch34 sz14 => ?_
   have sS30 := kA sS1 ch34
   refine aN sS30 ?_
   refine dOp2 1 5 (by kernel_rfl) ?_ ?_
   ·refine oK 15 (with_any 54 kx1 hdl1 W34) ?_
    rintro _ W35 ⟨rfl, ch35⟩
    have zz35 := ch35.size
    have sS31 := kA sS30 ch35
    refine aN sS31 ?_
    refine dOp2 3 5 (by kernel_rfl) ?_ ?_
    ·refine oK 17 (with_any 92 kx1 hdl1 W35) ?_
     rintro _ W36 ⟨rfl, ch36⟩
     have zz36 := ch36.size
     have sS32 := kA sS31 ch36
     refine aN sS32<|dO 5<|oN 7 Z64 120 fun W37 hb27 ch37 sz15 => ?_
     have sS33 := kA sS32 ch37
     refine aN sS33<|dO 6<|oU rfl (sC (Mur.xorl 54 kx1) (by rw [Mur.xorl_length, hdl1]) (qT ch37 (qT ch36 (qT ch35 hb26)))) fun W38 hb28 ch38 zz38 => ?_
     have sS34 := kB sS33 ch38
     refine aN sS34<|dO 7<|oU rfl (sC (Mur.xorl 92 kx1) (by rw [Mur.xorl_length, hdl1]) (qO ch38 hb27)) fun W39 hb29 ch39 zz39 => ?_
     have sS35 := kB sS34 ch39
     refine aN sS35<|dN<|?_
     exact ⟨W5.heap.size, W36.heap.size, by kernel_rfl, (Chg.step (Chg.step (Chg.step (Chg.step (Chg.step (Chg.step (Chg.step ((Chg.refl _).more (by simp) : Chg [] W4 W4) ch5 trivial) ch34 trivial) ch35 trivial) ch36 trivial) ch37 trivial) ch38 ⟨.inr (by omega), trivial⟩) ch39 ⟨.inr (by omega), trivial⟩), (qO ch39 hb28), hb29, ⟨by omega, by omega⟩⟩
    refine oN 7 Z64 120 fun W40 hb30 ch40 sz16 => ?_
    have sS36 := kA sS31 ch40
    refine aN sS36<|dO 3<|oK 17 (with_any 92 kx1 hdl1 W40) ?_
    rintro _ W41 ⟨rfl, ch41⟩
    have zz41 := ch41.size
    have sS37 := kA sS36 ch41
    refine aN sS37<|dO 6<|oU rfl (sC (Mur.xorl 54 kx1) (by rw [Mur.xorl_length, hdl1]) (qT ch41 (qT ch40 (qT ch35 hb26)))) fun W42 hb31 ch42 zz42 => ?_
    have sS38 := kB sS37 ch42
    refine aN sS38<|dO 7<|oU rfl (sC (Mur.xorl 92 kx1) (by rw [Mur.xorl_length, hdl1]) (qO ch42 (qT ch41 hb30))) fun W43 hb32 ch43 zz43 => ?_
    have sS39 := kB sS38 ch43
    refine aN sS39<|dN<|?_
    exact ⟨W5.heap.size, W35.heap.size, by kernel_rfl, (Chg.step (Chg.step (Chg.step (Chg.step (Chg.step (Chg.step (Chg.step ((Chg.refl _).more (by simp) : Chg [] W4 W4) ch5 trivial) ch34 trivial) ch35 trivial) ch40 trivial) ch41 trivial) ch42 ⟨.inr (by omega), trivial⟩) ch43 ⟨.inr (by omega), trivial⟩), (qO ch43 hb31), hb32, ⟨by omega, by omega⟩⟩
   refine oN 7 Z64 120 fun W44 hb33 ch44 sz17 => ?_
   have sS40 := kA sS30 ch44
   refine aN sS40<|dO 1<|oK 15 (with_any 54 kx1 hdl1 W44) ?_
   rintro _ W45 ⟨rfl, ch45⟩
   have zz45 := ch45.size
   have sS41 := kA sS40 ch45
   refine aN sS41<|dO 3<|oK 17 (with_any 92 kx1 hdl1 W45) ?_
   rintro _ W46 ⟨rfl, ch46⟩
   have zz46 := ch46.size
   have sS42 := kA sS41 ch46
   refine aN sS42<|dO 6<|oU rfl (sC (Mur.xorl 54 kx1) (by rw [Mur.xorl_length, hdl1]) (qT ch46 (qT ch45 (qT ch44 hb26)))) fun W47 hb34 ch47 zz47 => ?_
   have sS43 := kB sS42 ch47
   refine aN sS43<|dO 7<|oU rfl (sC (Mur.xorl 92 kx1) (by rw [Mur.xorl_length, hdl1]) (qO ch47 (qT ch46 (qT ch45 hb33)))) fun W48 hb35 ch48 zz48 => ?_
   have sS44 := kB sS43 ch48
   refine aN sS44<|dN<|?_
   exact ⟨W5.heap.size, W34.heap.size, by kernel_rfl, (Chg.step (Chg.step (Chg.step (Chg.step (Chg.step (Chg.step (Chg.step ((Chg.refl _).more (by simp) : Chg [] W4 W4) ch5 trivial) ch34 trivial) ch44 trivial) ch45 trivial) ch46 trivial) ch47 ⟨.inr (by omega), trivial⟩) ch48 ⟨.inr (by omega), trivial⟩), (qO ch48 hb34), hb35, ⟨by omega, by omega⟩⟩
  refine oN 7 Z64 120 fun W49 hb36 ch49 sz18 => ?_
  have sS45 := kA sS1 ch49
  refine aN sS45 ?_
  refine dOp2 1 4 (by kernel_rfl) ?_ ?_
  ·refine oK 15 (with_any 54 kx1 hdl1 W49) ?_
   rintro _ W50 ⟨rfl, ch50⟩
   have zz50 := ch50.size
   have sS46 := kA sS45 ch50
   refine aN sS46 ?_
   refine dOp2 3 4 (by kernel_rfl) ?_ ?_
   ·refine oK 17 (with_any 92 kx1 hdl1 W50) ?_
    rintro _ W51 ⟨rfl, ch51⟩
    have zz51 := ch51.size
    have sS47 := kA sS46 ch51
    refine aN sS47<|dO 4<|oN 6 Z64 120 fun W52 hb37 ch52 sz19 => ?_
    have sS48 := kA sS47 ch52
    refine aN sS48<|dO 6<|oU rfl (sC (Mur.xorl 54 kx1) (by rw [Mur.xorl_length, hdl1]) hb37) fun W53 hb38 ch53 zz53 => ?_
    have sS49 := kB sS48 ch53
    refine aN sS49<|dO 7<|oU rfl (sC (Mur.xorl 92 kx1) (by rw [Mur.xorl_length, hdl1]) (qO ch53 (qT ch52 (qT ch51 (qT ch50 hb36))))) fun W54 hb39 ch54 zz54 => ?_
    have sS50 := kB sS49 ch54
    refine aN sS50<|dN<|?_
    exact ⟨W51.heap.size, W5.heap.size, by kernel_rfl, (Chg.step (Chg.step (Chg.step (Chg.step (Chg.step (Chg.step (Chg.step ((Chg.refl _).more (by simp) : Chg [] W4 W4) ch5 trivial) ch49 trivial) ch50 trivial) ch51 trivial) ch52 trivial) ch53 ⟨.inr (by omega), trivial⟩) ch54 ⟨.inr (by omega), trivial⟩), (qO ch54 hb38), hb39, ⟨by omega, by omega⟩⟩
   refine oN 6 Z64 120 fun W55 hb40 ch55 sz20 => ?_
   have sS51 := kA sS46 ch55
   refine aN sS51<|dO 3<|oK 17 (with_any 92 kx1 hdl1 W55) ?_
   rintro _ W56 ⟨rfl, ch56⟩
   have zz56 := ch56.size
   have sS52 := kA sS51 ch56
   refine aN sS52<|dO 6<|oU rfl (sC (Mur.xorl 54 kx1) (by rw [Mur.xorl_length, hdl1]) (qT ch56 hb40)) fun W57 hb41 ch57 zz57 => ?_
   have sS53 := kB sS52 ch57
   refine aN sS53<|dO 7<|oU rfl (sC (Mur.xorl 92 kx1) (by rw [Mur.xorl_length, hdl1]) (qO ch57 (qT ch56 (qT ch55 (qT ch50 hb36))))) fun W58 hb42 ch58 zz58 => ?_
   have sS54 := kB sS53 ch58
   refine aN sS54<|dN<|?_
   exact ⟨W50.heap.size, W5.heap.size, by kernel_rfl, (Chg.step (Chg.step (Chg.step (Chg.step (Chg.step (Chg.step (Chg.step ((Chg.refl _).more (by simp) : Chg [] W4 W4) ch5 trivial) ch49 trivial) ch50 trivial) ch55 trivial) ch56 trivial) ch57 ⟨.inr (by omega), trivial⟩) ch58 ⟨.inr (by omega), trivial⟩), (qO ch58 hb41), hb42, ⟨by omega, by omega⟩⟩
  refine oN 6 Z64 120 fun W59 hb43 ch59 sz21 => ?_
  have sS55 := kA sS45 ch59
  refine aN sS55<|dO 1<|oK 15 (with_any 54 kx1 hdl1 W59) ?_
  rintro _ W60 ⟨rfl, ch60⟩
  have zz60 := ch60.size
  have sS56 := kA sS55 ch60
  refine aN sS56<|dO 3<|oK 17 (with_any 92 kx1 hdl1 W60) ?_
  rintro _ W61 ⟨rfl, ch61⟩
  have zz61 := ch61.size
  have sS57 := kA sS56 ch61
  refine aN sS57<|dO 6<|oU rfl (sC (Mur.xorl 54 kx1) (by rw [Mur.xorl_length, hdl1]) (qT ch61 (qT ch60 hb43))) fun W62 hb44 ch62 zz62 => ?_
  have sS58 := kB sS57 ch62
  refine aN sS58<|dO 7<|oU rfl (sC (Mur.xorl 92 kx1) (by rw [Mur.xorl_length, hdl1]) (qO ch62 (qT ch61 (qT ch60 (qT ch59 hb36))))) fun W63 hb45 ch63 zz63 => ?_
  have sS59 := kB sS58 ch63
  refine aN sS59<|dN<|?_
  exact ⟨W49.heap.size, W5.heap.size, by kernel_rfl, (Chg.step (Chg.step (Chg.step (Chg.step (Chg.step (Chg.step (Chg.step ((Chg.refl _).more (by simp) : Chg [] W4 W4) ch5 trivial) ch49 trivial) ch59 trivial) ch60 trivial) ch61 trivial) ch62 ⟨.inr (by omega), trivial⟩) ch63 ⟨.inr (by omega), trivial⟩), (qO ch63 hb44), hb45, ⟨by omega, by omega⟩⟩
 rintro aa1 W64 ⟨q6, q7, hF1, ch64, hq6, hq7, hqb⟩
 have zz64 := ch64.size
 generalize aa1.tmps = bb1 at hF1
 subst hF1
 have hlq6 := (Array.getElem?_eq_some_iff.1 hq6).1
 have hlq7 := (Array.getElem?_eq_some_iff.1 hq7).1
 refine nxt<|sR<|nS 0 18 0 #[] 5 fun W65 hb46 ch65 sz22 => rq 1 19 (.slice (some ⟨q6, 0, none⟩) 64 64) rfl (Mur.arr_slice 120 5 (.tmp 6) 64 rfl Tryz.underlying120 (by kernel_rfl) q6 (by kernel_rfl)) ?_
 have ow1 := Mur.own8_empty hb46 (Nat.le_refl _)
 refine rX 2 20 rfl rfl (ap8 64 64 ow1.own (Mur.byt_blk (Mur.xorl 54 kx1) (by rw [Mur.xorl_length, hdl1]) (qT ch65 hq6)) (fun h => by cases h) 64 (Mur.xorl 54 kx1)) ?_
 rintro _ W66 ⟨AA1, nn1, rfl, ow2, ch66, ha1⟩
 have zz66 := ch66.size
 have hq1 := ow2.nc
 have hq2 := ow2.cm
 refine rP 3 8 (.slice AA1 64 nn1)<|eN<|wp_seq<|sR<|rP 0 21 (.slice PA pn pc)<|rP 1 22 (vI pn)<|rP 2 23 (vI 0)<|eN<|wp_block<|?_
 refine Wk.loop (fun m_ a wr => ∃ (k : Nat) (A1 : Option Addr) (N : Nat) (c1 : Nat), m_ = pn - k ∧ a = Tag_F1 a.tmps (pw w 0) (pt q7 0) (.slice A1 N c1) (.slice PA pn pc) (vI pn) (vI k) ∧ k ≤ pn ∧ Own8 wr W64.heap.size 5 A1 N c1 (Mur.xorl 54 kx1 ++ flat (L.take k)) ∧ N = 64 + (flat (L.take k)).length ∧ wr.heap[q7]? = some (.cells (b8s (Mur.xorl 92 kx1)).toArray 120 (0, 0)) ∧ wr.heap[w.heap.size]? = some (.cells Z32 28 (0, 0)) ∧ Chg [] w wr ∧ W64.heap.size ≤ wr.heap.size) (pn - 0) ?_ ?_
 ·have kk2 := kA kk1 ch2
  refine ⟨0, AA1, 64, nn1, rfl, by kernel_rfl, by omega, (by rw [List.take_zero, show flat [] = [] from rfl, List.append_nil]; exact ow2), by rw [List.take_zero]; rfl, (Chg.hp ch66 (qT ch65 hq7) (off_blk (fun gz hgz => by have := ow1.lt gz hgz; omega))), (Chg.hp ch66 (qT ch65 (qT ch64 (qO ch4 (qT ch3 (qT ch2 hb1))))) (off_blk (fun gz hgz => by have := ow1.lt gz hgz; omega))), (Chg.step (kA (kA (kB (kA kk2 ch3) ch4) ch64) ch65) ch66 (newOr_blk (fun g hg => by have := ow1.lt g hg; omega))), (by omega)⟩
 rintro mm1 aa2 W67 ⟨k, A1, N, c1, hmm1, hF2, hi, hO, hN, h7, hZ, HB, hbs⟩
 generalize aa2.tmps = bb2 at hF2
 subst hF2
 have hqn := hO.nc
 have hqm := hO.cm
 unfold Go.maxLen at hqm
 by_cases hlt : k < pn
 ·obtain ⟨g, off, As, ns, cs, ls, rfl, hg, hcell, hby, hsn, hsc, hsnil, hfl, hfle⟩ := HL.out.at hlt
  refine sR<|bT 0 24 ((k : Int) < (pn : Int))<|eN<|wp_seq<|cT<|wp_skip<|nxt<|wp_seq<|wp_block<|sR<|rq 0 25 (pt g (off + k * 1)) rfl (iS 1 g off pn pc k)<|rq 1 26 _ rfl (ld 22 25 g (off + k * 1) (.slice As ns cs) (Chg.cell HB hcell trivial))<|rP 2 10 (.slice As ns cs)<|eN<|reg<|rP 0 27 (.slice A1 N c1)<|rP 1 28 (.slice As ns cs)<|rX 2 29 rfl rfl (ap8 ns cs hO.own (Mur.byt_chg hby HB (fun g off e hl => trivial)) hsnil (N + ns) ((Mur.xorl 54 kx1 ++ flat (L.take k)) ++ ls)) ?_
  rintro _ W68 ⟨AA2, nn2, rfl, ow3, ch67, ha2⟩
  have zz67 := ch67.size
  have hq3 := ow3.nc
  have hq4 := ow3.cm
  refine rP 3 8 (.slice AA2 (N + ns) nn2)<|rE<|inN<|nxt<|reg<|rI 0 30 ((k : Int) + 1) (((k + 1 : Nat) : Int))<|rP 1 23 (vI (k + 1 : Nat))<|eN<|?_
  refine ⟨_, ?_, k + 1, AA2, N + ns, nn2, rfl, by kernel_rfl, (by omega), (by rw [hfl, ← List.append_assoc]; exact ow3), (by rw [hfl, List.length_append]; have := hby.1; omega), (Chg.hp ch67 h7 (off_blk (fun gz hgz => by have := hO.lt gz hgz; omega))), (Chg.hp ch67 hZ (off_blk (fun gz hgz => by have := hO.lt gz hgz; omega))), (Chg.step HB ch67 (newOr_blk (fun g hg => by have := hO.lt g hg; omega))), (by omega)⟩
  omega
 have hfa : flat (L.take k) = flat L := by rw [show k = pn by omega]; exact Mur.flat_all HL.out.len
 have hfl := congrArg List.length hfa
 refine sR<|bF 0 24 ((k : Int) < (pn : Int))<|eN<|wp_seq<|cF<|xX<|nxt<|sR<|rP 0 31 (.slice A1 N c1)<|rK 1 32 (Sum_var (Mur.xorl 54 kx1 ++ flat (L.take k)) A1 N c1 W67 (HV.out.below (Chg.below0 HB)) hO.byt (by omega) hO.nil (by omega)) ?_
 rintro _ W69 ⟨dd1, hd2, hdl2, rfl, hB2⟩
 have ch68 := Chg.ofBelow hB2
 have zz68 := ch68.size
 refine nW 2 11 Z32 28 fun W70 hb47 ch69 sz23 => rU 3 rfl (sC dd1 hdl2 hb47) fun W71 hb48 ch70 zz70 => eN<|wp_seq<|?_
 refine dReg ([w.heap.size]) (by kernel_rfl) ?_
 intro W72 ch71 sz24
 have zz71 := ch71.size
 have sS60 : Chg ([w.heap.size]) W72 W72 := (Chg.refl _).more (by simp)
 refine dV 1 34 (.slice (some ⟨q7, 0, none⟩) 64 64) rfl rfl (fun w' hw' => Mur.arr_slice 120 5 (.tmp 7) 64 rfl Tryz.underlying120 (by kernel_rfl) q7 (by kernel_rfl)) sS60<|dV 3 36 (.slice (some ⟨W69.heap.size, 0, none⟩) 32 32) rfl rfl (fun w' hw' => Mur.arr_slice 28 5 (.tmp 11) 32 rfl Tryz.underlying28 (by kernel_rfl) W69.heap.size (by kernel_rfl)) sS60<|dO 0<|oS 33 0 #[] 5 fun W73 hb49 ch72 sz25 => ?_
 have sS61 := kA sS60 ch72
 refine aN sS61<|dO 2 ?_
 have ow4 := Mur.own8_empty hb49 (Nat.le_refl _)
 refine oEx (some 35) _ rfl rfl (by kernel_rfl) (ap8 64 64 ow4.own (Mur.byt_blk (Mur.xorl 92 kx1) (by rw [Mur.xorl_length, hdl1]) (qT ch72 (qT ch71 (qO ch70 (qT ch69 (qT ch68 h7)))))) (fun h => by cases h) 64 (Mur.xorl 92 kx1)) ?_
 rintro _ W74 ⟨AA3, nn3, rfl, ow5, ch73, ha3⟩
 have zz73 := ch73.size
 have hq5 := ow5.nc
 have hq6 := ow5.cm
 have sS62 := Chg.step sS61 ch73 (newOr_blk (fun g hg => by have := ow4.lt g hg; omega))
 refine aN sS62<|dO 4<|oEx (some 37) _ rfl rfl (by kernel_rfl) (ap8 32 32 ow5.own (Mur.byt_blk dd1 hdl2 (Chg.hp ch73 (qT ch72 (qT ch71 hb48)) (off_blk (fun gz hgz => by have := ow4.lt gz hgz; omega)))) (fun h => by cases h) 96 ((Mur.xorl 92 kx1) ++ dd1)) ?_
 rintro _ W75 ⟨AA4, nn4, rfl, ow6, ch74, ha4⟩
 have zz74 := ch74.size
 have hq7 := ow6.nc
 have hq8 := ow6.cm
 have sS63 := Chg.step sS62 ch74 (newOr_blk (fun g hg => by have := ow5.lt g hg; omega))
 refine aN sS63<|dO 5 ?_
 have kk15 := Chg.step (Chg.step (kA (kA (kB (kA (kA HB ch68) ch69) ch70) ch71) ch72) ch73 (newOr_blk (fun g hg => by have := ow4.lt g hg; omega))) ch74 (newOr_blk (fun g hg => by have := ow5.lt g hg; omega))
 refine oK 38 (Sum_var ((Mur.xorl 92 kx1) ++ dd1) AA4 96 nn4 W75 (HV.out.below (Chg.below0 kk15)) ow6.byt (by omega) ow6.nil (by omega)) ?_
 rintro _ W76 ⟨dd2, hd3, hdl3, rfl, hB3⟩
 have ch75 := Chg.ofBelow hB3
 have zz75 := ch75.size
 have sS64 := kA sS63 ch75
 refine aN sS64<|dO 6<|oU rfl (sC dd2 hdl3 (qT ch75 (Chg.hp ch74 (Chg.hp ch73 (qT ch72 (qT ch71 (qO ch70 (qT ch69 (qT ch68 hZ))))) (off_blk (fun gz hgz => by have := ow4.lt gz hgz; omega))) (off_blk (fun gz hgz => by have := ow5.lt gz hgz; omega))))) fun W77 hb50 ch76 zz76 => ?_
 have sS65 := kC sS64 ch76
 refine aN sS65<|dN<|wp_ret<|?_
 exact retC rfl hb50 (by rw [List.size_toArray, Mur.b8s_length, hdl3]; kernel_rfl) ⟨_, Go.Lib.hid (by unfold Mur.hmac; rw [hd3.out, hd2.out, hfa, hd1.out]), hdl3, rfl, (kB (kA kk15 ch75) ch76)⟩
end Go.Proofs.YtgbadghjnpbiaaaGreatDoor
namespace Go.Proofs.YtgbadghjnpbiaaaGreatDoor
open Go.RowKit Wk
open Mur (b8s Byt Own8 Seg Segs flat cutA attC)
set_option maxRecDepth 100000
set_option maxHeartbeats 4000000
theorem may_any (k r t : List UInt8) (n : Int) (hk : k.length = 32) (hr : r.length = 32) (_ht : t.length = 32) (w : World) : Calls Tryz.prog 57 #[.agg (attC k r n t).toArray] w fun e w' => e = .returned (.bool (decide (Mur.may n))) ∧ Chg [] w w' := by
 refine calls_of_wp Tryz.func57 rfl ?_
 refine sR<|nW 0 1 ((Mur.attC k r n t).toArray) 35 fun W1 hb1 ch1 sz1 => rP 1 2 vF<|eN<|sR<|rP 0 3 (pw w 64)<|rq 1 4 _ rfl (ld 3 3 w.heap.size 64 (vI n) (Mur.att_len hk hr hb1)) ?_
 by_cases hx1 : n ≥ (1 : Int)
 ·refine bT 2 5 (n ≥ (1 : Int))<|rP 3 6 vT<|rP 4 7 (pw w 64)<|rq 5 8 _ rfl (ld 3 7 w.heap.size 64 (vI n) (Mur.att_len hk hr hb1)) ?_
  by_cases hx2 : n ≤ (5000 : Int)
  ·exact bT 6 9 (n ≤ (5000 : Int))<|rP 7 10 vT<|rP 8 2 vT<|eN<|wp_ret<|rt vT ⟨by rw [decide_eq_true (show Mur.may n from by unfold Mur.may; omega)], (zA ch1 : Chg [] w W1)⟩
  exact bF 6 9 (n ≤ (5000 : Int))<|rP 7 10 vF<|rP 8 2 vF<|eN<|wp_ret<|rt vF ⟨by rw [decide_eq_false (show ¬ Mur.may n from by unfold Mur.may; omega)], (zA ch1 : Chg [] w W1)⟩
 exact bF 2 5 (n ≥ (1 : Int))<|rP 3 6 vF<|rZ 4 7<|rZ 5 8<|rZ 6 9<|rP 7 10 vF<|rP 8 2 vF<|eN<|wp_ret<|rt vF ⟨by rw [decide_eq_false (show ¬ Mur.may n from by unfold Mur.may; omega)], (zA ch1 : Chg [] w W1)⟩
theorem Rmay_any (k r t : List UInt8) (n : Int) (hk : k.length = 32) (hr : r.length = 32) (_ht : t.length = 32) (w : World) : Calls Tryz.prog 28 #[.agg (attC k r n t).toArray] w fun e w' => e = .returned (.bool (decide (Mur.may n))) ∧ Chg [] w w' := by
 refine calls_of_wp Tryz.func28 rfl ?_
 refine sR<|nW 0 1 ((Mur.attC k r n t).toArray) 35 fun W1 hb1 ch1 sz1 => rP 1 2 vF<|eN<|sR<|rP 0 3 (pw w 64)<|rq 1 4 _ rfl (ld 3 3 w.heap.size 64 (vI n) (Mur.att_len hk hr hb1)) ?_
 by_cases hx1 : n ≥ (1 : Int)
 ·refine bT 2 5 (n ≥ (1 : Int))<|rP 3 6 vT<|rP 4 7 (pw w 64)<|rq 5 8 _ rfl (ld 3 7 w.heap.size 64 (vI n) (Mur.att_len hk hr hb1)) ?_
  by_cases hx2 : n ≤ (5000 : Int)
  ·exact bT 6 9 (n ≤ (5000 : Int))<|rP 7 10 vT<|rP 8 2 vT<|eN<|wp_ret<|rt vT ⟨by rw [decide_eq_true (show Mur.may n from by unfold Mur.may; omega)], (zA ch1 : Chg [] w W1)⟩
  exact bF 6 9 (n ≤ (5000 : Int))<|rP 7 10 vF<|rP 8 2 vF<|eN<|wp_ret<|rt vF ⟨by rw [decide_eq_false (show ¬ Mur.may n from by unfold Mur.may; omega)], (zA ch1 : Chg [] w W1)⟩
 exact bF 2 5 (n ≥ (1 : Int))<|rP 3 6 vF<|rZ 4 7<|rZ 5 8<|rZ 6 9<|rP 7 10 vF<|rP 8 2 vF<|eN<|wp_ret<|rt vF ⟨by rw [decide_eq_false (show ¬ Mur.may n from by unfold Mur.may; omega)], (zA ch1 : Chg [] w W1)⟩
theorem eight_any (n : Int) (w : World) : Calls Tryz.prog 85 #[vI n] w fun e w' => ∃ E, Hid (E = Mur.e8 (Mur.u64n n)) ∧ E.length = 8 ∧ e = .returned (.agg (b8s E).toArray) ∧ Chg [] w w' := by
 refine calls_of_wp Tryz.func85 rfl ?_
 refine sR<|nW 0 2 #[vB 0, vB 0, vB 0, vB 0, vB 0, vB 0, vB 0, vB 0] 127 fun W1 hb1 ch1 sz1 => eN<|wp_seq<|sR<|rP 0 4 (vI 0)<|eN<|wp_block<|?_
 refine Wk.loopN 9 ?_
 refine Wk.rdS<|sR<|?_
 refine bT 0 5 ((0 : Int) < (8 : Int))<|eN<|wp_seq<|cT<|wp_skip<|nxt<|wp_seq<|wp_block<|sR<|rP 0 6 (vI 0)<|rP 1 3 (vI 0)<|eN<|reg<|rP 0 7 (vI 0)<|rP 1 8 (vI n)<|rq 2 9 (vU (Mur.u64n n : Nat)) rfl (Mur.conv_u64n 3 23 (.tmp 8) rfl (by kernel_rfl) Tryz.underlying23 .i64 n (by kernel_rfl))<|rP 3 10 (vI 0)<|rI 4 11 (8 * 0) (0)<|rI 5 12 (56 - 0) (56)<|rq 6 13 (vU ((Mur.u64n n) / 72057594037927936 : Nat)) rfl (Mur.shr64 23 3 (.tmp 9) (.tmp 12) rfl (Mur.u64n n) 56 .i64 (by kernel_rfl) (by kernel_rfl) (by omega) 72057594037927936 rfl)<|rq 7 14 (vB ((Mur.u64n n) / 72057594037927936 % 256 : Nat)) rfl (Mur.conv_u8 23 5 (.tmp 13) rfl (by kernel_rfl) Tryz.underlying5 .u64 ((Mur.u64n n) / 72057594037927936) (by kernel_rfl))<|rq 8 15 (pw w 0) rfl (Wk.index_arr 127 5 (.tmp 2) (.tmp 7) rfl 8 Tryz.underlying127 1 (by kernel_rfl) w.heap.size 0 0 .i64 (by kernel_rfl) (by kernel_rfl) (by decide))<|rU 9 rfl (sW 0 (vB ((Mur.u64n n) / 72057594037927936 % 256 : Nat)) hb1) fun W2 hb2 ch2 _ => ?_
 replace hb2 : W2.heap[w.heap.size]? = some (.cells #[vB ((Mur.u64n n) / 72057594037927936 % 256 : Nat), vB 0, vB 0, vB 0, vB 0, vB 0, vB 0, vB 0] 127 (0, 0)) := hb2
 have zz2 := ch2.size
 refine rE<|inN<|nxt<|reg<|rI 0 16 (0 + 1) (1)<|rP 1 4 (vI 1)<|eN<|Wk.rdS<|sR<|bT 0 5 ((1 : Int) < (8 : Int))<|eN<|wp_seq<|cT<|wp_skip<|nxt<|wp_seq<|wp_block<|sR<|rP 0 6 (vI 1)<|rP 1 3 (vI 1)<|eN<|reg<|rP 0 7 (vI 1)<|rP 1 8 (vI n)<|rq 2 9 (vU (Mur.u64n n : Nat)) rfl (Mur.conv_u64n 3 23 (.tmp 8) rfl (by kernel_rfl) Tryz.underlying23 .i64 n (by kernel_rfl))<|rP 3 10 (vI 1)<|rI 4 11 (8 * 1) (8)<|rI 5 12 (56 - 8) (48)<|rq 6 13 (vU ((Mur.u64n n) / 281474976710656 : Nat)) rfl (Mur.shr64 23 3 (.tmp 9) (.tmp 12) rfl (Mur.u64n n) 48 .i64 (by kernel_rfl) (by kernel_rfl) (by omega) 281474976710656 rfl)<|rq 7 14 (vB ((Mur.u64n n) / 281474976710656 % 256 : Nat)) rfl (Mur.conv_u8 23 5 (.tmp 13) rfl (by kernel_rfl) Tryz.underlying5 .u64 ((Mur.u64n n) / 281474976710656) (by kernel_rfl))<|rq 8 15 (pw w 1) rfl (Wk.index_arr 127 5 (.tmp 2) (.tmp 7) rfl 8 Tryz.underlying127 1 (by kernel_rfl) w.heap.size 0 1 .i64 (by kernel_rfl) (by kernel_rfl) (by decide))<|rU 9 rfl (sW 1 (vB ((Mur.u64n n) / 281474976710656 % 256 : Nat)) hb2) fun W3 hb3 ch3 _ => ?_
 replace hb3 : W3.heap[w.heap.size]? = some (.cells #[vB ((Mur.u64n n) / 72057594037927936 % 256 : Nat), vB ((Mur.u64n n) / 281474976710656 % 256 : Nat), vB 0, vB 0, vB 0, vB 0, vB 0, vB 0] 127 (0, 0)) := hb3
 have zz3 := ch3.size
 refine rE<|inN<|nxt<|reg<|rI 0 16 (1 + 1) (2)<|rP 1 4 (vI 2)<|eN<|Wk.rdS<|sR<|bT 0 5 ((2 : Int) < (8 : Int))<|eN<|wp_seq<|cT<|wp_skip<|nxt<|wp_seq<|wp_block<|sR<|rP 0 6 (vI 2)<|rP 1 3 (vI 2)<|eN<|reg<|rP 0 7 (vI 2)<|rP 1 8 (vI n)<|rq 2 9 (vU (Mur.u64n n : Nat)) rfl (Mur.conv_u64n 3 23 (.tmp 8) rfl (by kernel_rfl) Tryz.underlying23 .i64 n (by kernel_rfl))<|rP 3 10 (vI 2)<|rI 4 11 (8 * 2) (16)<|rI 5 12 (56 - 16) (40)<|rq 6 13 (vU ((Mur.u64n n) / 1099511627776 : Nat)) rfl (Mur.shr64 23 3 (.tmp 9) (.tmp 12) rfl (Mur.u64n n) 40 .i64 (by kernel_rfl) (by kernel_rfl) (by omega) 1099511627776 rfl)<|rq 7 14 (vB ((Mur.u64n n) / 1099511627776 % 256 : Nat)) rfl (Mur.conv_u8 23 5 (.tmp 13) rfl (by kernel_rfl) Tryz.underlying5 .u64 ((Mur.u64n n) / 1099511627776) (by kernel_rfl))<|rq 8 15 (pw w 2) rfl (Wk.index_arr 127 5 (.tmp 2) (.tmp 7) rfl 8 Tryz.underlying127 1 (by kernel_rfl) w.heap.size 0 2 .i64 (by kernel_rfl) (by kernel_rfl) (by decide))<|rU 9 rfl (sW 2 (vB ((Mur.u64n n) / 1099511627776 % 256 : Nat)) hb3) fun W4 hb4 ch4 _ => ?_
 replace hb4 : W4.heap[w.heap.size]? = some (.cells #[vB ((Mur.u64n n) / 72057594037927936 % 256 : Nat), vB ((Mur.u64n n) / 281474976710656 % 256 : Nat), vB ((Mur.u64n n) / 1099511627776 % 256 : Nat), vB 0, vB 0, vB 0, vB 0, vB 0] 127 (0, 0)) := hb4
 have zz4 := ch4.size
 refine rE<|inN<|nxt<|reg<|rI 0 16 (2 + 1) (3)<|rP 1 4 (vI 3)<|eN<|Wk.rdS<|sR<|bT 0 5 ((3 : Int) < (8 : Int))<|eN<|wp_seq<|cT<|wp_skip<|nxt<|wp_seq<|wp_block<|sR<|rP 0 6 (vI 3)<|rP 1 3 (vI 3)<|eN<|reg<|rP 0 7 (vI 3)<|rP 1 8 (vI n)<|rq 2 9 (vU (Mur.u64n n : Nat)) rfl (Mur.conv_u64n 3 23 (.tmp 8) rfl (by kernel_rfl) Tryz.underlying23 .i64 n (by kernel_rfl))<|rP 3 10 (vI 3)<|rI 4 11 (8 * 3) (24)<|rI 5 12 (56 - 24) (32)<|rq 6 13 (vU ((Mur.u64n n) / 4294967296 : Nat)) rfl (Mur.shr64 23 3 (.tmp 9) (.tmp 12) rfl (Mur.u64n n) 32 .i64 (by kernel_rfl) (by kernel_rfl) (by omega) 4294967296 rfl)<|rq 7 14 (vB ((Mur.u64n n) / 4294967296 % 256 : Nat)) rfl (Mur.conv_u8 23 5 (.tmp 13) rfl (by kernel_rfl) Tryz.underlying5 .u64 ((Mur.u64n n) / 4294967296) (by kernel_rfl))<|rq 8 15 (pw w 3) rfl (Wk.index_arr 127 5 (.tmp 2) (.tmp 7) rfl 8 Tryz.underlying127 1 (by kernel_rfl) w.heap.size 0 3 .i64 (by kernel_rfl) (by kernel_rfl) (by decide))<|rU 9 rfl (sW 3 (vB ((Mur.u64n n) / 4294967296 % 256 : Nat)) hb4) fun W5 hb5 ch5 _ => ?_
 replace hb5 : W5.heap[w.heap.size]? = some (.cells #[vB ((Mur.u64n n) / 72057594037927936 % 256 : Nat), vB ((Mur.u64n n) / 281474976710656 % 256 : Nat), vB ((Mur.u64n n) / 1099511627776 % 256 : Nat), vB ((Mur.u64n n) / 4294967296 % 256 : Nat), vB 0, vB 0, vB 0, vB 0] 127 (0, 0)) := hb5
 have zz5 := ch5.size
 refine rE<|inN<|nxt<|reg<|rI 0 16 (3 + 1) (4)<|rP 1 4 (vI 4)<|eN<|Wk.rdS<|sR<|bT 0 5 ((4 : Int) < (8 : Int))<|eN<|wp_seq<|cT<|wp_skip<|nxt<|wp_seq<|wp_block<|sR<|rP 0 6 (vI 4)<|rP 1 3 (vI 4)<|eN<|reg<|rP 0 7 (vI 4)<|rP 1 8 (vI n)<|rq 2 9 (vU (Mur.u64n n : Nat)) rfl (Mur.conv_u64n 3 23 (.tmp 8) rfl (by kernel_rfl) Tryz.underlying23 .i64 n (by kernel_rfl))<|rP 3 10 (vI 4)<|rI 4 11 (8 * 4) (32)<|rI 5 12 (56 - 32) (24)<|rq 6 13 (vU ((Mur.u64n n) / 16777216 : Nat)) rfl (Mur.shr64 23 3 (.tmp 9) (.tmp 12) rfl (Mur.u64n n) 24 .i64 (by kernel_rfl) (by kernel_rfl) (by omega) 16777216 rfl)<|rq 7 14 (vB ((Mur.u64n n) / 16777216 % 256 : Nat)) rfl (Mur.conv_u8 23 5 (.tmp 13) rfl (by kernel_rfl) Tryz.underlying5 .u64 ((Mur.u64n n) / 16777216) (by kernel_rfl))<|rq 8 15 (pw w 4) rfl (Wk.index_arr 127 5 (.tmp 2) (.tmp 7) rfl 8 Tryz.underlying127 1 (by kernel_rfl) w.heap.size 0 4 .i64 (by kernel_rfl) (by kernel_rfl) (by decide))<|rU 9 rfl (sW 4 (vB ((Mur.u64n n) / 16777216 % 256 : Nat)) hb5) fun W6 hb6 ch6 _ => ?_
 replace hb6 : W6.heap[w.heap.size]? = some (.cells #[vB ((Mur.u64n n) / 72057594037927936 % 256 : Nat), vB ((Mur.u64n n) / 281474976710656 % 256 : Nat), vB ((Mur.u64n n) / 1099511627776 % 256 : Nat), vB ((Mur.u64n n) / 4294967296 % 256 : Nat), vB ((Mur.u64n n) / 16777216 % 256 : Nat), vB 0, vB 0, vB 0] 127 (0, 0)) := hb6
 have zz6 := ch6.size
 refine rE<|inN<|nxt<|reg<|rI 0 16 (4 + 1) (5)<|rP 1 4 (vI 5)<|eN<|Wk.rdS<|sR<|bT 0 5 ((5 : Int) < (8 : Int))<|eN<|wp_seq<|cT<|wp_skip<|nxt<|wp_seq<|wp_block<|sR<|rP 0 6 (vI 5)<|rP 1 3 (vI 5)<|eN<|reg<|rP 0 7 (vI 5)<|rP 1 8 (vI n)<|rq 2 9 (vU (Mur.u64n n : Nat)) rfl (Mur.conv_u64n 3 23 (.tmp 8) rfl (by kernel_rfl) Tryz.underlying23 .i64 n (by kernel_rfl))<|rP 3 10 (vI 5)<|rI 4 11 (8 * 5) (40)<|rI 5 12 (56 - 40) (16)<|rq 6 13 (vU ((Mur.u64n n) / 65536 : Nat)) rfl (Mur.shr64 23 3 (.tmp 9) (.tmp 12) rfl (Mur.u64n n) 16 .i64 (by kernel_rfl) (by kernel_rfl) (by omega) 65536 rfl)<|rq 7 14 (vB ((Mur.u64n n) / 65536 % 256 : Nat)) rfl (Mur.conv_u8 23 5 (.tmp 13) rfl (by kernel_rfl) Tryz.underlying5 .u64 ((Mur.u64n n) / 65536) (by kernel_rfl))<|rq 8 15 (pw w 5) rfl (Wk.index_arr 127 5 (.tmp 2) (.tmp 7) rfl 8 Tryz.underlying127 1 (by kernel_rfl) w.heap.size 0 5 .i64 (by kernel_rfl) (by kernel_rfl) (by decide))<|rU 9 rfl (sW 5 (vB ((Mur.u64n n) / 65536 % 256 : Nat)) hb6) fun W7 hb7 ch7 _ => ?_
 replace hb7 : W7.heap[w.heap.size]? = some (.cells #[vB ((Mur.u64n n) / 72057594037927936 % 256 : Nat), vB ((Mur.u64n n) / 281474976710656 % 256 : Nat), vB ((Mur.u64n n) / 1099511627776 % 256 : Nat), vB ((Mur.u64n n) / 4294967296 % 256 : Nat), vB ((Mur.u64n n) / 16777216 % 256 : Nat), vB ((Mur.u64n n) / 65536 % 256 : Nat), vB 0, vB 0] 127 (0, 0)) := hb7
 have zz7 := ch7.size
 refine rE<|inN<|nxt<|reg<|rI 0 16 (5 + 1) (6)<|rP 1 4 (vI 6)<|eN<|Wk.rdS<|sR<|bT 0 5 ((6 : Int) < (8 : Int))<|eN<|wp_seq<|cT<|wp_skip<|nxt<|wp_seq<|wp_block<|sR<|rP 0 6 (vI 6)<|rP 1 3 (vI 6)<|eN<|reg<|rP 0 7 (vI 6)<|rP 1 8 (vI n)<|rq 2 9 (vU (Mur.u64n n : Nat)) rfl (Mur.conv_u64n 3 23 (.tmp 8) rfl (by kernel_rfl) Tryz.underlying23 .i64 n (by kernel_rfl))<|rP 3 10 (vI 6)<|rI 4 11 (8 * 6) (48)<|rI 5 12 (56 - 48) (8)<|rq 6 13 (vU ((Mur.u64n n) / 256 : Nat)) rfl (Mur.shr64 23 3 (.tmp 9) (.tmp 12) rfl (Mur.u64n n) 8 .i64 (by kernel_rfl) (by kernel_rfl) (by omega) 256 rfl)<|rq 7 14 (vB ((Mur.u64n n) / 256 % 256 : Nat)) rfl (Mur.conv_u8 23 5 (.tmp 13) rfl (by kernel_rfl) Tryz.underlying5 .u64 ((Mur.u64n n) / 256) (by kernel_rfl))<|rq 8 15 (pw w 6) rfl (Wk.index_arr 127 5 (.tmp 2) (.tmp 7) rfl 8 Tryz.underlying127 1 (by kernel_rfl) w.heap.size 0 6 .i64 (by kernel_rfl) (by kernel_rfl) (by decide))<|rU 9 rfl (sW 6 (vB ((Mur.u64n n) / 256 % 256 : Nat)) hb7) fun W8 hb8 ch8 _ => ?_
 replace hb8 : W8.heap[w.heap.size]? = some (.cells #[vB ((Mur.u64n n) / 72057594037927936 % 256 : Nat), vB ((Mur.u64n n) / 281474976710656 % 256 : Nat), vB ((Mur.u64n n) / 1099511627776 % 256 : Nat), vB ((Mur.u64n n) / 4294967296 % 256 : Nat), vB ((Mur.u64n n) / 16777216 % 256 : Nat), vB ((Mur.u64n n) / 65536 % 256 : Nat), vB ((Mur.u64n n) / 256 % 256 : Nat), vB 0] 127 (0, 0)) := hb8
 have zz8 := ch8.size
 refine rE<|inN<|nxt<|reg<|rI 0 16 (6 + 1) (7)<|rP 1 4 (vI 7)<|eN<|Wk.rdS<|sR<|bT 0 5 ((7 : Int) < (8 : Int))<|eN<|wp_seq<|cT<|wp_skip<|nxt<|wp_seq<|wp_block<|sR<|rP 0 6 (vI 7)<|rP 1 3 (vI 7)<|eN<|reg<|rP 0 7 (vI 7)<|rP 1 8 (vI n)<|rq 2 9 (vU (Mur.u64n n : Nat)) rfl (Mur.conv_u64n 3 23 (.tmp 8) rfl (by kernel_rfl) Tryz.underlying23 .i64 n (by kernel_rfl))<|rP 3 10 (vI 7)<|rI 4 11 (8 * 7) (56)<|rI 5 12 (56 - 56) (0)<|rq 6 13 (vU ((Mur.u64n n) / 1 : Nat)) rfl (Mur.shr64 23 3 (.tmp 9) (.tmp 12) rfl (Mur.u64n n) 0 .i64 (by kernel_rfl) (by kernel_rfl) (by omega) 1 rfl)<|rq 7 14 (vB ((Mur.u64n n) / 1 % 256 : Nat)) rfl (Mur.conv_u8 23 5 (.tmp 13) rfl (by kernel_rfl) Tryz.underlying5 .u64 ((Mur.u64n n) / 1) (by kernel_rfl))<|rq 8 15 (pw w 7) rfl (Wk.index_arr 127 5 (.tmp 2) (.tmp 7) rfl 8 Tryz.underlying127 1 (by kernel_rfl) w.heap.size 0 7 .i64 (by kernel_rfl) (by kernel_rfl) (by decide))<|rU 9 rfl (sW 7 (vB ((Mur.u64n n) / 1 % 256 : Nat)) hb8) fun W9 hb9 ch9 _ => ?_
 replace hb9 : W9.heap[w.heap.size]? = some (.cells #[vB ((Mur.u64n n) / 72057594037927936 % 256 : Nat), vB ((Mur.u64n n) / 281474976710656 % 256 : Nat), vB ((Mur.u64n n) / 1099511627776 % 256 : Nat), vB ((Mur.u64n n) / 4294967296 % 256 : Nat), vB ((Mur.u64n n) / 16777216 % 256 : Nat), vB ((Mur.u64n n) / 65536 % 256 : Nat), vB ((Mur.u64n n) / 256 % 256 : Nat), vB ((Mur.u64n n) / 1 % 256 : Nat)] 127 (0, 0)) := hb9
 have zz9 := ch9.size
 refine rE<|inN<|nxt<|reg<|rI 0 16 (7 + 1) (8)<|rP 1 4 (vI 8)<|eN<|Wk.rdS<|sR<|bF 0 5 ((8 : Int) < (8 : Int))<|eN<|wp_seq<|cF<|xX<|nxt<|sR<|rq 0 17 _ rfl (lR 0 ([vB ((Mur.u64n n) / 72057594037927936 % 256 : Nat), vB ((Mur.u64n n) / 281474976710656 % 256 : Nat), vB ((Mur.u64n n) / 1099511627776 % 256 : Nat), vB ((Mur.u64n n) / 4294967296 % 256 : Nat), vB ((Mur.u64n n) / 16777216 % 256 : Nat), vB ((Mur.u64n n) / 65536 % 256 : Nat), vB ((Mur.u64n n) / 256 % 256 : Nat), vB ((Mur.u64n n) / 1 % 256 : Nat)]) (range_row hb9))<|rU 1 rfl (Wk.storeR 127 (.tmp 2) (.tmp 17) rfl w.heap.size 0 (by kernel_rfl) ([vB ((Mur.u64n n) / 72057594037927936 % 256 : Nat), vB ((Mur.u64n n) / 281474976710656 % 256 : Nat), vB ((Mur.u64n n) / 1099511627776 % 256 : Nat), vB ((Mur.u64n n) / 4294967296 % 256 : Nat), vB ((Mur.u64n n) / 16777216 % 256 : Nat), vB ((Mur.u64n n) / 65536 % 256 : Nat), vB ((Mur.u64n n) / 256 % 256 : Nat), vB ((Mur.u64n n) / 1 % 256 : Nat)]) (by kernel_rfl) (by kernel_rfl) (by intro v hv; simp at hv; rcases hv with h | h | h | h | h | h | h | h <;> (subst h; rfl)) 127 ([vB ((Mur.u64n n) / 72057594037927936 % 256 : Nat), vB ((Mur.u64n n) / 281474976710656 % 256 : Nat), vB ((Mur.u64n n) / 1099511627776 % 256 : Nat), vB ((Mur.u64n n) / 4294967296 % 256 : Nat), vB ((Mur.u64n n) / 16777216 % 256 : Nat), vB ((Mur.u64n n) / 65536 % 256 : Nat), vB ((Mur.u64n n) / 256 % 256 : Nat), vB ((Mur.u64n n) / 1 % 256 : Nat)]) hb9 (by simp)) fun W10 hb10 ch10 _ => ?_
 replace hb10 : W10.heap[w.heap.size]? = some (.cells #[vB ((Mur.u64n n) / 72057594037927936 % 256 : Nat), vB ((Mur.u64n n) / 281474976710656 % 256 : Nat), vB ((Mur.u64n n) / 1099511627776 % 256 : Nat), vB ((Mur.u64n n) / 4294967296 % 256 : Nat), vB ((Mur.u64n n) / 16777216 % 256 : Nat), vB ((Mur.u64n n) / 65536 % 256 : Nat), vB ((Mur.u64n n) / 256 % 256 : Nat), vB ((Mur.u64n n) / 1 % 256 : Nat)] 127 (0, 0)) := hb10
 have zz10 := ch10.size
 refine eN<|wp_ret<|?_
 exact retC rfl hb10 (by kernel_rfl) ⟨_, Go.Lib.hid rfl, Mur.e8_length _, by rw [Mur.e8_cells], (kB (kB (kB (kB (kB (kB (kB (kB (kB (zA ch1 : Chg [] w W1) ch2) ch3) ch4) ch5) ch6) ch7) ch8) ch9) ch10)⟩
end Go.Proofs.YtgbadghjnpbiaaaGreatDoor
namespace Go.Proofs.YtgbadghjnpbiaaaGreatDoor
open Go.RowKit Wk
open Mur (b8s Byt Own8 Seg Segs flat cutA attC)
set_option maxRecDepth 100000
set_option maxHeartbeats 4000000
theorem Reight_any (n : Int) (w : World) : Calls Tryz.prog 88 #[vI n] w fun e w' => ∃ q E, Hid (E = Mur.e8 (Mur.u64n n)) ∧ e = .returned (.slice (some ⟨q, 0, none⟩) 8 8) ∧ Byt w' (some ⟨q, 0, none⟩) 8 E ∧ (w.heap.size ≤ q ∧ q < w'.heap.size) ∧ Chg [] w w' := by
 refine calls_of_wp Tryz.func88 rfl ?_
 refine sR<|rP 0 2 (.slice none 0 0)<|eN<|sR<|rP 0 6 (vI n)<|rq 1 7 (vU (Mur.u64n n : Nat)) rfl (Mur.conv_u64n 3 23 (.tmp 6) rfl (by kernel_rfl) Tryz.underlying23 .i64 n (by kernel_rfl))<|rP 2 3 (vU (Mur.u64n n : Nat))<|eN<|sR<|nS 0 8 8 #[vB 0, vB 0, vB 0, vB 0, vB 0, vB 0, vB 0, vB 0] 5 fun W1 hb1 ch1 sz1 => rP 1 4 (.slice (some ⟨w.heap.size, 0, none⟩) 8 8)<|eN<|wp_seq<|sR<|rP 0 5 (vI 7)<|eN<|wp_block<|?_
 refine Wk.loopN 9 ?_
 refine Wk.rdS<|wp_seq<|sR<|?_
 refine rP 0 9 (vI 7)<|bT 1 10 ((7 : Int) ≥ (0 : Int))<|eN<|cT<|wp_skip<|nxt<|wp_seq<|wp_block<|sR<|rP 0 13 (.slice (some ⟨w.heap.size, 0, none⟩) 8 8)<|rP 1 14 (vI 7)<|rP 2 15 (vU (Mur.u64n n : Nat))<|rq 3 16 (vU (Mur.u64n n % 256 : Nat)) rfl (Mur.rem_u64 23 23 (.tmp 15) (.const (vU 256)) rfl (Mur.u64n n) 256 (by kernel_rfl) (by kernel_rfl) (by omega))<|rq 4 17 (vB (Mur.u64n n % 256 : Nat)) rfl (Mur.conv_int 23 5 (.tmp 16) rfl (by kernel_rfl) .u8 Tryz.underlying5 .u64 ((Mur.u64n n % 256 : Nat) : Int) (by kernel_rfl) (by rw [Mur.u8_mod]; omega))<|rq 5 18 (pw w 7) rfl (iS 1 w.heap.size 0 8 8 7)<|rU 6 rfl (sW 7 (vB (Mur.u64n n % 256 : Nat)) hb1) fun W2 hb2 ch2 _ => ?_
 replace hb2 : W2.heap[w.heap.size]? = some (.cells #[vB 0, vB 0, vB 0, vB 0, vB 0, vB 0, vB 0, vB (Mur.u64n n % 256 : Nat)] 5 (0, 0)) := hb2
 have zz2 := ch2.size
 refine eN<|reg<|rP 0 19 (vU (Mur.u64n n : Nat))<|rq 1 20 (vU (Mur.u64n n / 256 : Nat)) rfl (Mur.quo_u64 23 23 (.tmp 19) (.const (vU 256)) rfl (Mur.u64n n) 256 (by kernel_rfl) (by kernel_rfl) (by omega) (by have := Mur.u64n_lt n; omega))<|rP 2 3 (vU (Mur.u64n n / 256 : Nat))<|rE<|inN<|nxt<|reg<|rP 0 11 (vI 7)<|rI 1 12 (7 - 1) (6)<|rP 2 5 (vI 6)<|eN<|Wk.rdS<|wp_seq<|sR<|rP 0 9 (vI 6)<|bT 1 10 ((6 : Int) ≥ (0 : Int))<|eN<|cT<|wp_skip<|nxt<|wp_seq<|wp_block<|sR<|rP 0 13 (.slice (some ⟨w.heap.size, 0, none⟩) 8 8)<|rP 1 14 (vI 6)<|rP 2 15 (vU (Mur.u64n n / 256 : Nat))<|rq 3 16 (vU (Mur.u64n n / 256 % 256 : Nat)) rfl (Mur.rem_u64 23 23 (.tmp 15) (.const (vU 256)) rfl (Mur.u64n n / 256) 256 (by kernel_rfl) (by kernel_rfl) (by omega))<|rq 4 17 (vB (Mur.u64n n / 256 % 256 : Nat)) rfl (Mur.conv_int 23 5 (.tmp 16) rfl (by kernel_rfl) .u8 Tryz.underlying5 .u64 ((Mur.u64n n / 256 % 256 : Nat) : Int) (by kernel_rfl) (by rw [Mur.u8_mod]; omega))<|rq 5 18 (pw w 6) rfl (iS 1 w.heap.size 0 8 8 6)<|rU 6 rfl (sW 6 (vB (Mur.u64n n / 256 % 256 : Nat)) hb2) fun W3 hb3 ch3 _ => ?_
 replace hb3 : W3.heap[w.heap.size]? = some (.cells #[vB 0, vB 0, vB 0, vB 0, vB 0, vB 0, vB (Mur.u64n n / 256 % 256 : Nat), vB (Mur.u64n n % 256 : Nat)] 5 (0, 0)) := hb3
 have zz3 := ch3.size
 refine eN<|reg<|rP 0 19 (vU (Mur.u64n n / 256 : Nat))<|rq 1 20 (vU (Mur.u64n n / 256 / 256 : Nat)) rfl (Mur.quo_u64 23 23 (.tmp 19) (.const (vU 256)) rfl (Mur.u64n n / 256) 256 (by kernel_rfl) (by kernel_rfl) (by omega) (by have := Mur.u64n_lt n; omega))<|rP 2 3 (vU (Mur.u64n n / 256 / 256 : Nat))<|rE<|inN<|nxt<|reg<|rP 0 11 (vI 6)<|rI 1 12 (6 - 1) (5)<|rP 2 5 (vI 5)<|eN<|Wk.rdS<|wp_seq<|sR<|rP 0 9 (vI 5)<|bT 1 10 ((5 : Int) ≥ (0 : Int))<|eN<|cT<|wp_skip<|nxt<|wp_seq<|wp_block<|sR<|rP 0 13 (.slice (some ⟨w.heap.size, 0, none⟩) 8 8)<|rP 1 14 (vI 5)<|rP 2 15 (vU (Mur.u64n n / 256 / 256 : Nat))<|rq 3 16 (vU (Mur.u64n n / 256 / 256 % 256 : Nat)) rfl (Mur.rem_u64 23 23 (.tmp 15) (.const (vU 256)) rfl (Mur.u64n n / 256 / 256) 256 (by kernel_rfl) (by kernel_rfl) (by omega))<|rq 4 17 (vB (Mur.u64n n / 256 / 256 % 256 : Nat)) rfl (Mur.conv_int 23 5 (.tmp 16) rfl (by kernel_rfl) .u8 Tryz.underlying5 .u64 ((Mur.u64n n / 256 / 256 % 256 : Nat) : Int) (by kernel_rfl) (by rw [Mur.u8_mod]; omega))<|rq 5 18 (pw w 5) rfl (iS 1 w.heap.size 0 8 8 5)<|rU 6 rfl (sW 5 (vB (Mur.u64n n / 256 / 256 % 256 : Nat)) hb3) fun W4 hb4 ch4 _ => ?_
 replace hb4 : W4.heap[w.heap.size]? = some (.cells #[vB 0, vB 0, vB 0, vB 0, vB 0, vB (Mur.u64n n / 256 / 256 % 256 : Nat), vB (Mur.u64n n / 256 % 256 : Nat), vB (Mur.u64n n % 256 : Nat)] 5 (0, 0)) := hb4
 have zz4 := ch4.size
 refine eN<|reg<|rP 0 19 (vU (Mur.u64n n / 256 / 256 : Nat))<|rq 1 20 (vU (Mur.u64n n / 256 / 256 / 256 : Nat)) rfl (Mur.quo_u64 23 23 (.tmp 19) (.const (vU 256)) rfl (Mur.u64n n / 256 / 256) 256 (by kernel_rfl) (by kernel_rfl) (by omega) (by have := Mur.u64n_lt n; omega))<|rP 2 3 (vU (Mur.u64n n / 256 / 256 / 256 : Nat))<|rE<|inN<|nxt<|reg<|rP 0 11 (vI 5)<|rI 1 12 (5 - 1) (4)<|rP 2 5 (vI 4)<|eN<|Wk.rdS<|wp_seq<|sR<|rP 0 9 (vI 4)<|bT 1 10 ((4 : Int) ≥ (0 : Int))<|eN<|cT<|wp_skip<|nxt<|wp_seq<|wp_block<|sR<|rP 0 13 (.slice (some ⟨w.heap.size, 0, none⟩) 8 8)<|rP 1 14 (vI 4)<|rP 2 15 (vU (Mur.u64n n / 256 / 256 / 256 : Nat))<|rq 3 16 (vU (Mur.u64n n / 256 / 256 / 256 % 256 : Nat)) rfl (Mur.rem_u64 23 23 (.tmp 15) (.const (vU 256)) rfl (Mur.u64n n / 256 / 256 / 256) 256 (by kernel_rfl) (by kernel_rfl) (by omega))<|rq 4 17 (vB (Mur.u64n n / 256 / 256 / 256 % 256 : Nat)) rfl (Mur.conv_int 23 5 (.tmp 16) rfl (by kernel_rfl) .u8 Tryz.underlying5 .u64 ((Mur.u64n n / 256 / 256 / 256 % 256 : Nat) : Int) (by kernel_rfl) (by rw [Mur.u8_mod]; omega))<|rq 5 18 (pw w 4) rfl (iS 1 w.heap.size 0 8 8 4)<|rU 6 rfl (sW 4 (vB (Mur.u64n n / 256 / 256 / 256 % 256 : Nat)) hb4) fun W5 hb5 ch5 _ => ?_
 replace hb5 : W5.heap[w.heap.size]? = some (.cells #[vB 0, vB 0, vB 0, vB 0, vB (Mur.u64n n / 256 / 256 / 256 % 256 : Nat), vB (Mur.u64n n / 256 / 256 % 256 : Nat), vB (Mur.u64n n / 256 % 256 : Nat), vB (Mur.u64n n % 256 : Nat)] 5 (0, 0)) := hb5
 have zz5 := ch5.size
 refine eN<|reg<|rP 0 19 (vU (Mur.u64n n / 256 / 256 / 256 : Nat))<|rq 1 20 (vU (Mur.u64n n / 256 / 256 / 256 / 256 : Nat)) rfl (Mur.quo_u64 23 23 (.tmp 19) (.const (vU 256)) rfl (Mur.u64n n / 256 / 256 / 256) 256 (by kernel_rfl) (by kernel_rfl) (by omega) (by have := Mur.u64n_lt n; omega))<|rP 2 3 (vU (Mur.u64n n / 256 / 256 / 256 / 256 : Nat))<|rE<|inN<|nxt<|reg<|rP 0 11 (vI 4)<|rI 1 12 (4 - 1) (3)<|rP 2 5 (vI 3)<|eN<|Wk.rdS<|wp_seq<|sR<|rP 0 9 (vI 3)<|bT 1 10 ((3 : Int) ≥ (0 : Int))<|eN<|cT<|wp_skip<|nxt<|wp_seq<|wp_block<|sR<|rP 0 13 (.slice (some ⟨w.heap.size, 0, none⟩) 8 8)<|rP 1 14 (vI 3)<|rP 2 15 (vU (Mur.u64n n / 256 / 256 / 256 / 256 : Nat))<|rq 3 16 (vU (Mur.u64n n / 256 / 256 / 256 / 256 % 256 : Nat)) rfl (Mur.rem_u64 23 23 (.tmp 15) (.const (vU 256)) rfl (Mur.u64n n / 256 / 256 / 256 / 256) 256 (by kernel_rfl) (by kernel_rfl) (by omega))<|rq 4 17 (vB (Mur.u64n n / 256 / 256 / 256 / 256 % 256 : Nat)) rfl (Mur.conv_int 23 5 (.tmp 16) rfl (by kernel_rfl) .u8 Tryz.underlying5 .u64 ((Mur.u64n n / 256 / 256 / 256 / 256 % 256 : Nat) : Int) (by kernel_rfl) (by rw [Mur.u8_mod]; omega))<|rq 5 18 (pw w 3) rfl (iS 1 w.heap.size 0 8 8 3)<|rU 6 rfl (sW 3 (vB (Mur.u64n n / 256 / 256 / 256 / 256 % 256 : Nat)) hb5) fun W6 hb6 ch6 _ => ?_
 replace hb6 : W6.heap[w.heap.size]? = some (.cells #[vB 0, vB 0, vB 0, vB (Mur.u64n n / 256 / 256 / 256 / 256 % 256 : Nat), vB (Mur.u64n n / 256 / 256 / 256 % 256 : Nat), vB (Mur.u64n n / 256 / 256 % 256 : Nat), vB (Mur.u64n n / 256 % 256 : Nat), vB (Mur.u64n n % 256 : Nat)] 5 (0, 0)) := hb6
 have zz6 := ch6.size
 refine eN<|reg<|rP 0 19 (vU (Mur.u64n n / 256 / 256 / 256 / 256 : Nat))<|rq 1 20 (vU (Mur.u64n n / 256 / 256 / 256 / 256 / 256 : Nat)) rfl (Mur.quo_u64 23 23 (.tmp 19) (.const (vU 256)) rfl (Mur.u64n n / 256 / 256 / 256 / 256) 256 (by kernel_rfl) (by kernel_rfl) (by omega) (by have := Mur.u64n_lt n; omega))<|rP 2 3 (vU (Mur.u64n n / 256 / 256 / 256 / 256 / 256 : Nat))<|rE<|inN<|nxt<|reg<|rP 0 11 (vI 3)<|rI 1 12 (3 - 1) (2)<|rP 2 5 (vI 2)<|eN<|Wk.rdS<|wp_seq<|sR<|rP 0 9 (vI 2)<|bT 1 10 ((2 : Int) ≥ (0 : Int))<|eN<|cT<|wp_skip<|nxt<|wp_seq<|wp_block<|sR<|rP 0 13 (.slice (some ⟨w.heap.size, 0, none⟩) 8 8)<|rP 1 14 (vI 2)<|rP 2 15 (vU (Mur.u64n n / 256 / 256 / 256 / 256 / 256 : Nat))<|rq 3 16 (vU (Mur.u64n n / 256 / 256 / 256 / 256 / 256 % 256 : Nat)) rfl (Mur.rem_u64 23 23 (.tmp 15) (.const (vU 256)) rfl (Mur.u64n n / 256 / 256 / 256 / 256 / 256) 256 (by kernel_rfl) (by kernel_rfl) (by omega))<|rq 4 17 (vB (Mur.u64n n / 256 / 256 / 256 / 256 / 256 % 256 : Nat)) rfl (Mur.conv_int 23 5 (.tmp 16) rfl (by kernel_rfl) .u8 Tryz.underlying5 .u64 ((Mur.u64n n / 256 / 256 / 256 / 256 / 256 % 256 : Nat) : Int) (by kernel_rfl) (by rw [Mur.u8_mod]; omega))<|rq 5 18 (pw w 2) rfl (iS 1 w.heap.size 0 8 8 2)<|rU 6 rfl (sW 2 (vB (Mur.u64n n / 256 / 256 / 256 / 256 / 256 % 256 : Nat)) hb6) fun W7 hb7 ch7 _ => ?_
 replace hb7 : W7.heap[w.heap.size]? = some (.cells #[vB 0, vB 0, vB (Mur.u64n n / 256 / 256 / 256 / 256 / 256 % 256 : Nat), vB (Mur.u64n n / 256 / 256 / 256 / 256 % 256 : Nat), vB (Mur.u64n n / 256 / 256 / 256 % 256 : Nat), vB (Mur.u64n n / 256 / 256 % 256 : Nat), vB (Mur.u64n n / 256 % 256 : Nat), vB (Mur.u64n n % 256 : Nat)] 5 (0, 0)) := hb7
 have zz7 := ch7.size
 refine eN<|reg<|rP 0 19 (vU (Mur.u64n n / 256 / 256 / 256 / 256 / 256 : Nat))<|rq 1 20 (vU (Mur.u64n n / 256 / 256 / 256 / 256 / 256 / 256 : Nat)) rfl (Mur.quo_u64 23 23 (.tmp 19) (.const (vU 256)) rfl (Mur.u64n n / 256 / 256 / 256 / 256 / 256) 256 (by kernel_rfl) (by kernel_rfl) (by omega) (by have := Mur.u64n_lt n; omega))<|rP 2 3 (vU (Mur.u64n n / 256 / 256 / 256 / 256 / 256 / 256 : Nat))<|rE<|inN<|nxt<|reg<|rP 0 11 (vI 2)<|rI 1 12 (2 - 1) (1)<|rP 2 5 (vI 1)<|eN<|Wk.rdS<|wp_seq<|sR<|rP 0 9 (vI 1)<|bT 1 10 ((1 : Int) ≥ (0 : Int))<|eN<|cT<|wp_skip<|nxt<|wp_seq<|wp_block<|sR<|rP 0 13 (.slice (some ⟨w.heap.size, 0, none⟩) 8 8)<|rP 1 14 (vI 1)<|rP 2 15 (vU (Mur.u64n n / 256 / 256 / 256 / 256 / 256 / 256 : Nat))<|rq 3 16 (vU (Mur.u64n n / 256 / 256 / 256 / 256 / 256 / 256 % 256 : Nat)) rfl (Mur.rem_u64 23 23 (.tmp 15) (.const (vU 256)) rfl (Mur.u64n n / 256 / 256 / 256 / 256 / 256 / 256) 256 (by kernel_rfl) (by kernel_rfl) (by omega))<|rq 4 17 (vB (Mur.u64n n / 256 / 256 / 256 / 256 / 256 / 256 % 256 : Nat)) rfl (Mur.conv_int 23 5 (.tmp 16) rfl (by kernel_rfl) .u8 Tryz.underlying5 .u64 ((Mur.u64n n / 256 / 256 / 256 / 256 / 256 / 256 % 256 : Nat) : Int) (by kernel_rfl) (by rw [Mur.u8_mod]; omega))<|rq 5 18 (pw w 1) rfl (iS 1 w.heap.size 0 8 8 1)<|rU 6 rfl (sW 1 (vB (Mur.u64n n / 256 / 256 / 256 / 256 / 256 / 256 % 256 : Nat)) hb7) fun W8 hb8 ch8 _ => ?_
 replace hb8 : W8.heap[w.heap.size]? = some (.cells #[vB 0, vB (Mur.u64n n / 256 / 256 / 256 / 256 / 256 / 256 % 256 : Nat), vB (Mur.u64n n / 256 / 256 / 256 / 256 / 256 % 256 : Nat), vB (Mur.u64n n / 256 / 256 / 256 / 256 % 256 : Nat), vB (Mur.u64n n / 256 / 256 / 256 % 256 : Nat), vB (Mur.u64n n / 256 / 256 % 256 : Nat), vB (Mur.u64n n / 256 % 256 : Nat), vB (Mur.u64n n % 256 : Nat)] 5 (0, 0)) := hb8
 have zz8 := ch8.size
 refine eN<|reg<|rP 0 19 (vU (Mur.u64n n / 256 / 256 / 256 / 256 / 256 / 256 : Nat))<|rq 1 20 (vU (Mur.u64n n / 256 / 256 / 256 / 256 / 256 / 256 / 256 : Nat)) rfl (Mur.quo_u64 23 23 (.tmp 19) (.const (vU 256)) rfl (Mur.u64n n / 256 / 256 / 256 / 256 / 256 / 256) 256 (by kernel_rfl) (by kernel_rfl) (by omega) (by have := Mur.u64n_lt n; omega))<|rP 2 3 (vU (Mur.u64n n / 256 / 256 / 256 / 256 / 256 / 256 / 256 : Nat))<|rE<|inN<|nxt<|reg<|rP 0 11 (vI 1)<|rI 1 12 (1 - 1) (0)<|rP 2 5 (vI 0)<|eN<|Wk.rdS<|wp_seq<|sR<|rP 0 9 (vI 0)<|bT 1 10 ((0 : Int) ≥ (0 : Int))<|eN<|cT<|wp_skip<|nxt<|wp_seq<|wp_block<|sR<|rP 0 13 (.slice (some ⟨w.heap.size, 0, none⟩) 8 8)<|rP 1 14 (vI 0)<|rP 2 15 (vU (Mur.u64n n / 256 / 256 / 256 / 256 / 256 / 256 / 256 : Nat))<|rq 3 16 (vU (Mur.u64n n / 256 / 256 / 256 / 256 / 256 / 256 / 256 % 256 : Nat)) rfl (Mur.rem_u64 23 23 (.tmp 15) (.const (vU 256)) rfl (Mur.u64n n / 256 / 256 / 256 / 256 / 256 / 256 / 256) 256 (by kernel_rfl) (by kernel_rfl) (by omega))<|rq 4 17 (vB (Mur.u64n n / 256 / 256 / 256 / 256 / 256 / 256 / 256 % 256 : Nat)) rfl (Mur.conv_int 23 5 (.tmp 16) rfl (by kernel_rfl) .u8 Tryz.underlying5 .u64 ((Mur.u64n n / 256 / 256 / 256 / 256 / 256 / 256 / 256 % 256 : Nat) : Int) (by kernel_rfl) (by rw [Mur.u8_mod]; omega))<|rq 5 18 (pw w 0) rfl (iS 1 w.heap.size 0 8 8 0)<|rU 6 rfl (sW 0 (vB (Mur.u64n n / 256 / 256 / 256 / 256 / 256 / 256 / 256 % 256 : Nat)) hb8) fun W9 hb9 ch9 _ => ?_
 replace hb9 : W9.heap[w.heap.size]? = some (.cells #[vB (Mur.u64n n / 256 / 256 / 256 / 256 / 256 / 256 / 256 % 256 : Nat), vB (Mur.u64n n / 256 / 256 / 256 / 256 / 256 / 256 % 256 : Nat), vB (Mur.u64n n / 256 / 256 / 256 / 256 / 256 % 256 : Nat), vB (Mur.u64n n / 256 / 256 / 256 / 256 % 256 : Nat), vB (Mur.u64n n / 256 / 256 / 256 % 256 : Nat), vB (Mur.u64n n / 256 / 256 % 256 : Nat), vB (Mur.u64n n / 256 % 256 : Nat), vB (Mur.u64n n % 256 : Nat)] 5 (0, 0)) := hb9
 have zz9 := ch9.size
 refine eN<|reg<|rP 0 19 (vU (Mur.u64n n / 256 / 256 / 256 / 256 / 256 / 256 / 256 : Nat))<|rq 1 20 (vU (Mur.u64n n / 256 / 256 / 256 / 256 / 256 / 256 / 256 / 256 : Nat)) rfl (Mur.quo_u64 23 23 (.tmp 19) (.const (vU 256)) rfl (Mur.u64n n / 256 / 256 / 256 / 256 / 256 / 256 / 256) 256 (by kernel_rfl) (by kernel_rfl) (by omega) (by have := Mur.u64n_lt n; omega))<|rP 2 3 (vU (Mur.u64n n / 256 / 256 / 256 / 256 / 256 / 256 / 256 / 256 : Nat))<|rE<|inN<|nxt<|reg<|rP 0 11 (vI 0)<|rI 1 12 (0 - 1) (-1)<|rP 2 5 (vI (-1))<|eN<|Wk.rdS<|wp_seq<|sR<|rP 0 9 (vI (-1))<|bF 1 10 ((-1 : Int) ≥ (0 : Int))<|eN<|cF<|xX<|nxt<|sR<|rP 0 21 (.slice (some ⟨w.heap.size, 0, none⟩) 8 8)<|rP 1 2 (.slice (some ⟨w.heap.size, 0, none⟩) 8 8)<|eN<|wp_ret<|?_
 have hfin := hb9
 rw [Mur.e8_quo] at hfin
 exact rt (.slice (some ⟨w.heap.size, 0, none⟩) 8 8) ⟨w.heap.size, _, Go.Lib.hid rfl, rfl, Mur.byt_blk _ (Mur.e8_length _) hfin, ⟨by omega, by omega⟩, (kB (kB (kB (kB (kB (kB (kB (kB (zA ch1 : Chg [] w W1) ch2) ch3) ch4) ch5) ch6) ch7) ch8) ch9)⟩
end Go.Proofs.YtgbadghjnpbiaaaGreatDoor
namespace Go.Proofs.YtgbadghjnpbiaaaGreatDoor
open Go.RowKit Wk
open Mur (b8s Byt Own8 Seg Segs flat cutA attC)
set_option maxRecDepth 100000
set_option maxHeartbeats 4000000
theorem Join4_any (gp : Nat) (T : TypeId) (fr : Nat × Nat) (A1 A2 A3 A4 : Option Addr) (c1 c2 c3 c4 : Nat) (k r E t : List UInt8) (w : World) (hp : w.heap[gp]? = some (.cells #[.slice A1 32 c1, .slice A2 32 c2, .slice A3 8 c3, .slice A4 32 c4] T fr)) (hy1 : Byt w A1 32 k) (hy2 : Byt w A2 32 r) (hy3 : Byt w A3 8 E) (hy4 : Byt w A4 32 t) : Calls Tryz.prog 86 #[.slice (some ⟨gp, 0, none⟩) 4 4, .slice none 0 0] w fun e w' => ∃ q, e = .returned (.slice (some ⟨q, 0, none⟩) 104 104) ∧ Byt w' (some ⟨q, 0, none⟩) 104 (((k ++ r) ++ E) ++ t) ∧ (w.heap.size ≤ q ∧ q < w'.heap.size) ∧ Chg [] w w' := by
 have hgp := (Array.getElem?_eq_some_iff.1 hp).1
 refine calls_of_wp Tryz.func86 rfl ?_
 refine sR<|rP 0 4 (.slice none 0 0)<|eN<|wp_seq<|sR<|rP 0 12 (.slice (some ⟨gp, 0, none⟩) 4 4)<|rP 1 13 (vI 4)<|eF 2 14 (4 : Int) (0 : Int)<|eN<|cF<|wp_skip<|nxt<|wp_seq<|sR<|rP 0 16 (.slice (some ⟨gp, 0, none⟩) 4 4)<|rP 1 17 (vI 4)<|eF 2 18 (4 : Int) (1 : Int)<|eN<|cF<|wp_skip<|nxt<|sR<|rP 0 5 (vI 0)<|eN<|wp_seq<|sR<|rP 0 23 (.slice none 0 0)<|rP 1 24 (vI 0)<|bF 2 25 ((0 : Int) > (0 : Int))<|eN<|cF<|wp_skip<|nxt<|wp_seq<|sR<|rP 0 42 (.slice (some ⟨gp, 0, none⟩) 4 4)<|rP 1 43 (vI 4)<|rP 2 44 (vI 0)<|eN<|wp_block<|?_
 refine Wk.loopN 5 ?_
 refine Wk.rdS<|sR<|?_
 refine bT 0 45 ((0 : Int) < (4 : Int))<|eN<|wp_seq<|cT<|wp_skip<|nxt<|wp_seq<|wp_block<|sR<|rq 0 46 (pt gp 0) rfl (iS 1 gp 0 4 4 0)<|rL 1 47 0 (.slice A1 32 c1) hp<|rP 2 7 (.slice A1 32 c1)<|eN<|wp_seq<|sR<|rP 0 48 (.slice A1 32 c1)<|rP 1 49 (vI 32)<|rP 2 50 (vI 0)<|rI 3 51 (9223372036854775807 - 0) (9223372036854775807)<|bF 4 52 ((32 : Int) > (9223372036854775807 : Int))<|eN<|cF<|wp_skip<|nxt<|reg<|rP 0 54 (vI 0)<|rP 1 55 (.slice A1 32 c1)<|rP 2 56 (vI 32)<|rI 3 57 (0 + 32) (32)<|rP 4 5 (vI 32)<|rE<|inN<|nxt<|reg<|rI 0 58 (0 + 1) (1)<|rP 1 44 (vI 1)<|eN<|Wk.rdS<|sR<|bT 0 45 ((1 : Int) < (4 : Int))<|eN<|wp_seq<|cT<|wp_skip<|nxt<|wp_seq<|wp_block<|sR<|rq 0 46 (pt gp 1) rfl (iS 1 gp 0 4 4 1)<|rL 1 47 1 (.slice A2 32 c2) hp<|rP 2 7 (.slice A2 32 c2)<|eN<|wp_seq<|sR<|rP 0 48 (.slice A2 32 c2)<|rP 1 49 (vI 32)<|rP 2 50 (vI 32)<|rI 3 51 (9223372036854775807 - 32) (9223372036854775775)<|bF 4 52 ((32 : Int) > (9223372036854775775 : Int))<|eN<|cF<|wp_skip<|nxt<|reg<|rP 0 54 (vI 32)<|rP 1 55 (.slice A2 32 c2)<|rP 2 56 (vI 32)<|rI 3 57 (32 + 32) (64)<|rP 4 5 (vI 64)<|rE<|inN<|nxt<|reg<|rI 0 58 (1 + 1) (2)<|rP 1 44 (vI 2)<|eN<|Wk.rdS<|sR<|bT 0 45 ((2 : Int) < (4 : Int))<|eN<|wp_seq<|cT<|wp_skip<|nxt<|wp_seq<|wp_block<|sR<|rq 0 46 (pt gp 2) rfl (iS 1 gp 0 4 4 2)<|rL 1 47 2 (.slice A3 8 c3) hp<|rP 2 7 (.slice A3 8 c3)<|eN<|wp_seq<|sR<|rP 0 48 (.slice A3 8 c3)<|rP 1 49 (vI 8)<|rP 2 50 (vI 64)<|rI 3 51 (9223372036854775807 - 64) (9223372036854775743) ?_
 refine bF 4 52 ((8 : Int) > (9223372036854775743 : Int))<|eN<|cF<|wp_skip<|nxt<|reg<|rP 0 54 (vI 64)<|rP 1 55 (.slice A3 8 c3)<|rP 2 56 (vI 8)<|rI 3 57 (64 + 8) (72)<|rP 4 5 (vI 72)<|rE<|inN<|nxt<|reg<|rI 0 58 (2 + 1) (3)<|rP 1 44 (vI 3)<|eN<|Wk.rdS<|sR<|bT 0 45 ((3 : Int) < (4 : Int))<|eN<|wp_seq<|cT<|wp_skip<|nxt<|wp_seq<|wp_block<|sR<|rq 0 46 (pt gp 3) rfl (iS 1 gp 0 4 4 3)<|rL 1 47 3 (.slice A4 32 c4) hp<|rP 2 7 (.slice A4 32 c4)<|eN<|wp_seq<|sR<|rP 0 48 (.slice A4 32 c4)<|rP 1 49 (vI 32)<|rP 2 50 (vI 72)<|rI 3 51 (9223372036854775807 - 72) (9223372036854775735)<|bF 4 52 ((32 : Int) > (9223372036854775735 : Int))<|eN<|cF<|wp_skip<|nxt<|reg<|rP 0 54 (vI 72)<|rP 1 55 (.slice A4 32 c4)<|rP 2 56 (vI 32)<|rI 3 57 (72 + 32) (104)<|rP 4 5 (vI 104)<|rE<|inN<|nxt<|reg<|rI 0 58 (3 + 1) (4)<|rP 1 44 (vI 4)<|eN<|Wk.rdS<|sR<|bF 0 45 ((4 : Int) < (4 : Int))<|eN<|wp_seq<|cF<|xX<|nxt<|sR<|rP 0 59 (vI 104)<|rX 1 60 rfl rfl (Mur.run_nz Tryz.f101.params 22 5 Tryz.func101 (by kernel_rfl) (by kernel_rfl) (by kernel_rfl) (by kernel_rfl) Tryz.underlying22 (.tmp 59) _ rfl 104 (by kernel_rfl) (by omega)) ?_
 rintro _ W1 ⟨cs1, rfl, hb1, hl1, ch1, sz1⟩
 have zz1 := ch1.size
 refine rP 2 61 (vI 104)<|rP 3 62 (vI 104)<|rq 4 63 (.slice (some ⟨w.heap.size, 0, none⟩) 104 104) rfl (Mur.run_cut3 22 (.tmp 60) none (.tmp 61) (.tmp 62) rfl 5 Tryz.underlying22 (by kernel_rfl) w.heap.size 0 104 cs1.length 0 104 104 104 (by kernel_rfl) (.inr ⟨rfl, rfl⟩) (by kernel_rfl) (by kernel_rfl) rfl rfl (by omega) (by omega))<|rP 5 8 (.slice (some ⟨w.heap.size, 0, none⟩) 104 104)<|eN<|sR<|rP 0 64 (.slice (some ⟨w.heap.size, 0, none⟩) 104 104)<|rP 1 65 (.slice (some ⟨gp, 0, none⟩) 4 4)<|rq 2 66 (pt gp 0) rfl (iS 1 gp 0 4 4 0) ?_
 have kk1 : Chg [] w W1 := zA ch1
 refine rL 3 67 0 (.slice A1 32 c1) (qT kk1 hp)<|rX 4 68 rfl rfl (Mur.copy_mid (.tmp 64) (.tmp 67) 22 22 rfl 5 Tryz.underlying22 (by kernel_rfl) w.heap.size 0 104 104 (by kernel_rfl) A1 32 c1 (by kernel_rfl) 5 (b8s ([]) ++ cs1.drop 0) k hb1 (Mur.byt_chg hy1 kk1 (fun g off e hl => trivial)) (by omega) (by omega) (by have hfl_ := Mur.fill_len (cs := cs1) (acc := []) (p := 0) (rfl : ([] : List UInt8).length = 0) (by omega); omega) (b8s (k) ++ cs1.drop 32) (Mur.fill_step (rfl : ([] : List UInt8).length = 0) hy1.1 rfl (by omega))) ?_
 rintro _ W2 ⟨rfl, hb2, ch2⟩
 have zz2 := ch2.size
 refine rP 5 9 (vI 32)<|eN<|wp_seq<|sR<|rP 0 69 (.slice (some ⟨gp, 0, none⟩) 4 4)<|rq 1 70 (.slice (some ⟨gp, 1, none⟩) 3 3) rfl (Mur.run_from_at 118 (.tmp 69) (.const (vI 1)) rfl 22 Tryz.underlying118 (by kernel_rfl) gp 0 4 4 1 3 (by kernel_rfl) (by kernel_rfl) (by omega) (by omega) rfl)<|rP 2 71 (vI 3)<|rP 3 72 (vI 0)<|eN<|wp_block<|?_
 refine Wk.loopN 4 ?_
 refine Wk.rdS<|sR<|?_
 refine bT 0 73 ((0 : Int) < (3 : Int))<|eN<|wp_seq<|cT<|wp_skip<|nxt<|wp_seq<|wp_block<|sR<|rq 0 74 (pt gp 1) rfl (iS 1 gp 1 3 3 0) ?_
 have kk2 := kB kk1 ch2
 refine rL 1 75 1 (.slice A2 32 c2) (qT kk2 hp)<|rP 2 11 (.slice A2 32 c2)<|eN<|sR<|rP 0 76 (vI 32)<|rP 1 77 (.slice (some ⟨w.heap.size, 0, none⟩) 104 104)<|rP 2 78 (vI 32)<|rq 3 79 (.slice (some ⟨w.heap.size, 32, none⟩) 72 72) rfl (Mur.run_from_at 22 (.tmp 77) (.tmp 78) rfl 5 Tryz.underlying22 (by kernel_rfl) w.heap.size 0 104 104 32 72 (by kernel_rfl) (by kernel_rfl) (by omega) (by omega) rfl)<|rP 4 80 (.slice none 0 0)<|rq 5 81 (vI 0) rfl (Mur.copy_none (.tmp 79) (.tmp 80) 22 22 rfl 5 Tryz.underlying22 (by kernel_rfl) ⟨w.heap.size, 32, none⟩ 72 72 (by kernel_rfl) (by kernel_rfl))<|rI 6 82 (32 + 0) (32)<|rP 7 9 (vI 32)<|eN<|reg<|rP 0 83 (vI 32)<|rP 1 84 (.slice (some ⟨w.heap.size, 0, none⟩) 104 104)<|rP 2 85 (vI 32)<|rq 3 86 (.slice (some ⟨w.heap.size, 32, none⟩) 72 72) rfl (Mur.run_from_at 22 (.tmp 84) (.tmp 85) rfl 5 Tryz.underlying22 (by kernel_rfl) w.heap.size 0 104 104 32 72 (by kernel_rfl) (by kernel_rfl) (by omega) (by omega) rfl)<|rP 4 87 (.slice A2 32 c2)<|rX 5 88 rfl rfl (Mur.copy_mid (.tmp 86) (.tmp 87) 22 22 rfl 5 Tryz.underlying22 (by kernel_rfl) w.heap.size 32 72 72 (by kernel_rfl) A2 32 c2 (by kernel_rfl) 5 (b8s (k) ++ cs1.drop 32) r hb2 (Mur.byt_chg hy2 kk2 (fun g off e hl => trivial)) (by omega) (by omega) (by have hfl_ := Mur.fill_len (cs := cs1) (acc := k) (p := 32) hy1.1 (by omega); omega) (b8s (k ++ r) ++ cs1.drop 64) (Mur.fill_step hy1.1 hy2.1 rfl (by omega))) ?_
 rintro _ W3 ⟨rfl, hb3, ch3⟩
 have zz3 := ch3.size
 refine rI 6 89 (32 + 32) (64)<|rP 7 9 (vI 64)<|rE<|inN<|nxt<|reg<|rI 0 90 (0 + 1) (1)<|rP 1 72 (vI 1)<|eN<|Wk.rdS<|sR<|bT 0 73 ((1 : Int) < (3 : Int))<|eN<|wp_seq<|cT<|wp_skip<|nxt<|wp_seq<|wp_block<|sR<|rq 0 74 (pt gp 2) rfl (iS 1 gp 1 3 3 1) ?_
 have kk3 := kB kk2 ch3
 refine rL 1 75 2 (.slice A3 8 c3) (qT kk3 hp)<|rP 2 11 (.slice A3 8 c3)<|eN<|sR<|rP 0 76 (vI 64)<|rP 1 77 (.slice (some ⟨w.heap.size, 0, none⟩) 104 104)<|rP 2 78 (vI 64)<|rq 3 79 (.slice (some ⟨w.heap.size, 64, none⟩) 40 40) rfl (Mur.run_from_at 22 (.tmp 77) (.tmp 78) rfl 5 Tryz.underlying22 (by kernel_rfl) w.heap.size 0 104 104 64 40 (by kernel_rfl) (by kernel_rfl) (by omega) (by omega) rfl)<|rP 4 80 (.slice none 0 0)<|rq 5 81 (vI 0) rfl (Mur.copy_none (.tmp 79) (.tmp 80) 22 22 rfl 5 Tryz.underlying22 (by kernel_rfl) ⟨w.heap.size, 64, none⟩ 40 40 (by kernel_rfl) (by kernel_rfl))<|rI 6 82 (64 + 0) (64)<|rP 7 9 (vI 64)<|eN<|reg<|rP 0 83 (vI 64)<|rP 1 84 (.slice (some ⟨w.heap.size, 0, none⟩) 104 104)<|rP 2 85 (vI 64)<|rq 3 86 (.slice (some ⟨w.heap.size, 64, none⟩) 40 40) rfl (Mur.run_from_at 22 (.tmp 84) (.tmp 85) rfl 5 Tryz.underlying22 (by kernel_rfl) w.heap.size 0 104 104 64 40 (by kernel_rfl) (by kernel_rfl) (by omega) (by omega) rfl)<|rP 4 87 (.slice A3 8 c3)<|rX 5 88 rfl rfl (Mur.copy_mid (.tmp 86) (.tmp 87) 22 22 rfl 5 Tryz.underlying22 (by kernel_rfl) w.heap.size 64 40 40 (by kernel_rfl) A3 8 c3 (by kernel_rfl) 5 (b8s (k ++ r) ++ cs1.drop 64) E hb3 (Mur.byt_chg hy3 kk3 (fun g off e hl => trivial)) (by omega) (by omega) (by have hfl_ := Mur.fill_len (cs := cs1) (acc := k ++ r) (p := 64) (by simp only [List.length_append]; have := hy1.1; have := hy2.1; have := hy3.1; omega) (by omega); omega) (b8s ((k ++ r) ++ E) ++ cs1.drop 72) (Mur.fill_step (by simp only [List.length_append]; have := hy1.1; have := hy2.1; have := hy3.1; omega) hy3.1 rfl (by omega))) ?_
 rintro _ W4 ⟨rfl, hb4, ch4⟩
 have zz4 := ch4.size
 refine rI 6 89 (64 + 8) (72)<|rP 7 9 (vI 72)<|rE<|inN<|nxt<|reg<|rI 0 90 (1 + 1) (2)<|rP 1 72 (vI 2)<|eN<|Wk.rdS<|sR<|bT 0 73 ((2 : Int) < (3 : Int))<|eN<|wp_seq<|cT<|wp_skip<|nxt<|wp_seq<|wp_block<|sR<|rq 0 74 (pt gp 3) rfl (iS 1 gp 1 3 3 2) ?_
 have kk4 := kB kk3 ch4
 refine rL 1 75 3 (.slice A4 32 c4) (qT kk4 hp)<|rP 2 11 (.slice A4 32 c4)<|eN<|sR<|rP 0 76 (vI 72)<|rP 1 77 (.slice (some ⟨w.heap.size, 0, none⟩) 104 104)<|rP 2 78 (vI 72)<|rq 3 79 (.slice (some ⟨w.heap.size, 72, none⟩) 32 32) rfl (Mur.run_from_at 22 (.tmp 77) (.tmp 78) rfl 5 Tryz.underlying22 (by kernel_rfl) w.heap.size 0 104 104 72 32 (by kernel_rfl) (by kernel_rfl) (by omega) (by omega) rfl)<|rP 4 80 (.slice none 0 0)<|rq 5 81 (vI 0) rfl (Mur.copy_none (.tmp 79) (.tmp 80) 22 22 rfl 5 Tryz.underlying22 (by kernel_rfl) ⟨w.heap.size, 72, none⟩ 32 32 (by kernel_rfl) (by kernel_rfl))<|rI 6 82 (72 + 0) (72)<|rP 7 9 (vI 72)<|eN<|reg<|rP 0 83 (vI 72)<|rP 1 84 (.slice (some ⟨w.heap.size, 0, none⟩) 104 104)<|rP 2 85 (vI 72)<|rq 3 86 (.slice (some ⟨w.heap.size, 72, none⟩) 32 32) rfl (Mur.run_from_at 22 (.tmp 84) (.tmp 85) rfl 5 Tryz.underlying22 (by kernel_rfl) w.heap.size 0 104 104 72 32 (by kernel_rfl) (by kernel_rfl) (by omega) (by omega) rfl)<|rP 4 87 (.slice A4 32 c4)<|rX 5 88 rfl rfl (Mur.copy_mid (.tmp 86) (.tmp 87) 22 22 rfl 5 Tryz.underlying22 (by kernel_rfl) w.heap.size 72 32 32 (by kernel_rfl) A4 32 c4 (by kernel_rfl) 5 (b8s ((k ++ r) ++ E) ++ cs1.drop 72) t hb4 (Mur.byt_chg hy4 kk4 (fun g off e hl => trivial)) (by omega) (by omega) (by have hfl_ := Mur.fill_len (cs := cs1) (acc := (k ++ r) ++ E) (p := 72) (by simp only [List.length_append]; have := hy1.1; have := hy2.1; have := hy3.1; omega) (by omega); omega) (b8s (((k ++ r) ++ E) ++ t) ++ cs1.drop 104) (Mur.fill_step (by simp only [List.length_append]; have := hy1.1; have := hy2.1; have := hy3.1; omega) hy4.1 rfl (by omega))) ?_
 rintro _ W5 ⟨rfl, hb5, ch5⟩
 have zz5 := ch5.size
 exact rI 6 89 (72 + 32) (104)<|rP 7 9 (vI 104)<|rE<|inN<|nxt<|reg<|rI 0 90 (2 + 1) (3)<|rP 1 72 (vI 3)<|eN<|Wk.rdS<|sR<|bF 0 73 ((3 : Int) < (3 : Int))<|eN<|wp_seq<|cF<|xX<|nxt<|sR<|rP 0 91 (.slice (some ⟨w.heap.size, 0, none⟩) 104 104)<|rP 1 4 (.slice (some ⟨w.heap.size, 0, none⟩) 104 104)<|eN<|wp_ret<|rt (.slice (some ⟨w.heap.size, 0, none⟩) 104 104) ⟨w.heap.size, rfl, Mur.byt_fill hb5 (by simp only [List.length_append]; have := hy1.1; have := hy2.1; have := hy3.1; have := hy4.1; omega), ⟨by omega, by omega⟩, (kB kk4 ch5)⟩
end Go.Proofs.YtgbadghjnpbiaaaGreatDoor
namespace Go.Proofs.YtgbadghjnpbiaaaGreatDoor
open Go.RowKit Wk
open Mur (b8s Byt Own8 Seg Segs flat cutA attC)
set_option maxRecDepth 100000
set_option maxHeartbeats 4000000
theorem raw_any (k r t : List UInt8) (n : Int) (hk : k.length = 32) (hr : r.length = 32) (ht : t.length = 32) (w : World) : Calls Tryz.prog 58 #[.agg (attC k r n t).toArray] w fun e w' => ∃ q cq B, Hid (B = Mur.rawL k r n t) ∧ e = .returned (.slice (some ⟨q, 0, none⟩) 104 cq) ∧ Byt w' (some ⟨q, 0, none⟩) 104 B ∧ (w.heap.size ≤ q ∧ q < w'.heap.size) ∧ (104 ≤ cq ∧ cq ≤ 9223372036854775807) ∧ Chg [] w w' := by
 refine calls_of_wp Tryz.func58 rfl ?_
 refine sR<|nW 0 1 ((Mur.attC k r n t).toArray) 35 fun W1 hb1 ch1 sz1 => rP 1 2 (.slice none 0 0)<|eN<|sR<|rP 0 4 (pw w 64)<|rq 1 5 _ rfl (ld 3 4 w.heap.size 64 (vI n) (Mur.att_len hk hr hb1))<|rK 2 6 (eight_any n W1) ?_
 rintro _ W2 ⟨e8_1, hd1, hdl1, rfl, ch2⟩
 have zz2 := ch2.size
 refine nW 3 3 #[vB 0, vB 0, vB 0, vB 0, vB 0, vB 0, vB 0, vB 0] 127 fun W3 hb2 ch3 sz2 => rU 4 rfl (sC e8_1 hdl1 hb2) fun W4 hb3 ch4 zz4 => eN<|wp_seq<|?_
 refine dReg ([]) (by kernel_rfl) ?_
 intro W5 ch5 sz3
 have zz5 := ch5.size
 have sS1 : Chg ([]) W5 W5 := (Chg.refl _).more (by simp)
 refine dW 0 7 (pw w 0) sS1<|dV 1 8 (.slice (some ⟨w.heap.size, 0, none⟩) 32 32) rfl rfl (fun w' hw' => Mur.arr_slice 28 5 (.tmp 7) 32 rfl Tryz.underlying28 (by kernel_rfl) w.heap.size (by kernel_rfl)) sS1<|dW 2 9 (pw w 32) sS1<|dV 3 10 (.slice (some ⟨w.heap.size, 32, none⟩) 32 32) rfl rfl (fun w' hw' => Mur.arr_slice_at 28 5 (.tmp 9) 32 rfl Tryz.underlying28 (by kernel_rfl) w.heap.size 32 (by kernel_rfl)) sS1<|dV 4 11 (.slice (some ⟨W2.heap.size, 0, none⟩) 8 8) rfl rfl (fun w' hw' => Mur.arr_slice 127 5 (.tmp 3) 8 rfl Tryz.underlying127 (by kernel_rfl) W2.heap.size (by kernel_rfl)) sS1<|dW 5 12 (pw w 65) sS1<|dV 6 13 (.slice (some ⟨w.heap.size, 65, none⟩) 32 32) rfl rfl (fun w' hw' => Mur.arr_slice_at 28 5 (.tmp 12) 32 rfl Tryz.underlying28 (by kernel_rfl) w.heap.size 65 (by kernel_rfl)) sS1<|dO 7<|oS 14 4 #[.slice (some ⟨w.heap.size, 0, none⟩) 32 32, .slice (some ⟨w.heap.size, 32, none⟩) 32 32, .slice (some ⟨W2.heap.size, 0, none⟩) 8 8, .slice (some ⟨w.heap.size, 65, none⟩) 32 32] 22 fun W6 hb4 ch6 sz4 => ?_
 have sS2 := kA sS1 ch6
 refine aN sS2<|dO 8<|oK 15 (Join4_any W5.heap.size 22 (0, 0) (some ⟨w.heap.size, 0, none⟩) (some ⟨w.heap.size, 32, none⟩) (some ⟨W2.heap.size, 0, none⟩) (some ⟨w.heap.size, 65, none⟩) 32 32 8 32 k r e8_1 t W6 hb4 (Mur.byt_rng (Mur.att_key (qT ch6 (qT ch5 (qO ch4 (qT ch3 (qT ch2 hb1)))))) hk) (Mur.byt_rng (Mur.att_root hk (qT ch6 (qT ch5 (qO ch4 (qT ch3 (qT ch2 hb1)))))) hr) (Mur.byt_blk e8_1 hdl1 (qT ch6 (qT ch5 hb3))) (Mur.byt_rng (Mur.att_tag hk hr (qT ch6 (qT ch5 (qO ch4 (qT ch3 (qT ch2 hb1)))))) ht)) ?_
 rintro _ W7 ⟨qj1, rfl, hbj1, hq1, ch7⟩
 have zz7 := ch7.size
 have hBt1 : ∀ g off, (some ⟨qj1, 0, none⟩ : Option Addr) = some ⟨g, off, none⟩ → W6.heap.size ≤ g ∧ g < W7.heap.size := fun g off e => by cases e; exact hq1
 have sS3 := kA sS2 ch7
 exact aN sS3<|dW 9 2 (.slice (some ⟨qj1, 0, none⟩) 104 104) sS3<|dN<|wp_ret<|rt (.slice (some ⟨qj1, 0, none⟩) 104 104) ⟨_, _, _, Go.Lib.hid (by rw [hd1.out]; rfl), rfl, hbj1, ⟨by omega, by omega⟩, ⟨by omega, by omega⟩, (kA (kA (kA (kB (kA (kA (zA ch1 : Chg [] w W1) ch2) ch3) ch4) ch5) ch6) ch7)⟩
theorem Rbytes_any (k r t : List UInt8) (n : Int) (hk : k.length = 32) (hr : r.length = 32) (ht : t.length = 32) (w : World) : Calls Tryz.prog 64 #[.agg (attC k r n t).toArray] w fun e w' => ∃ q cq B, Hid (B = Mur.rawL k r n t) ∧ e = .returned (.slice (some ⟨q, 0, none⟩) 104 cq) ∧ Byt w' (some ⟨q, 0, none⟩) 104 B ∧ (w.heap.size ≤ q ∧ q < w'.heap.size) ∧ (104 ≤ cq ∧ cq ≤ 9223372036854775807) ∧ Chg [] w w' := by
 refine calls_of_wp Tryz.func64 rfl ?_
 refine sR<|nW 0 1 ((Mur.attC k r n t).toArray) 35 fun W1 hb1 ch1 sz1 => rP 1 2 (.slice none 0 0)<|eN<|sR<|rP 0 3 (.slice none 0 0)<|eN<|sR<|rP 0 4 (.slice none 0 0)<|rP 1 5 (pw w 0)<|rq 2 6 (.slice (some ⟨w.heap.size, 0, none⟩) 32 32) rfl (Mur.arr_slice 28 5 (.tmp 5) 32 rfl Tryz.underlying28 (by kernel_rfl) w.heap.size (by kernel_rfl)) ?_
 have ow1 := Mur.own8_nil W1 W1.heap.size 5
 refine rX 3 7 rfl rfl (ap8 32 32 ow1.own (Mur.byt_rng (Mur.att_key hb1) hk) (fun h => by cases h) 32 k) ?_
 rintro _ W2 ⟨AA1, nn1, rfl, ow2, ch2, ha1⟩
 have zz2 := ch2.size
 have hq1 := ow2.nc
 have hq2 := ow2.cm
 refine rP 4 3 (.slice AA1 32 nn1)<|eN<|sR<|rP 0 8 (.slice AA1 32 nn1)<|rP 1 9 (pw w 32)<|rq 2 10 (.slice (some ⟨w.heap.size, 32, none⟩) 32 32) rfl (Mur.arr_slice_at 28 5 (.tmp 9) 32 rfl Tryz.underlying28 (by kernel_rfl) w.heap.size 32 (by kernel_rfl))<|rX 3 11 rfl rfl (ap8 32 32 ow2.own (Mur.byt_rng (Mur.att_root hk (Chg.hp ch2 hb1 (off_blk (fun gz hgz => by have := ow1.lt gz hgz; omega)))) hr) (fun h => by cases h) 64 (k ++ r)) ?_
 rintro _ W3 ⟨AA2, nn2, rfl, ow3, ch3, ha2⟩
 have zz3 := ch3.size
 have hq3 := ow3.nc
 have hq4 := ow3.cm
 refine rP 4 3 (.slice AA2 64 nn2)<|eN<|sR<|rP 0 12 (.slice AA2 64 nn2)<|rP 1 13 (pw w 64)<|rq 2 14 _ rfl (ld 3 13 w.heap.size 64 (vI n) (Mur.att_len hk hr (Chg.hp ch3 (Chg.hp ch2 hb1 (off_blk (fun gz hgz => by have := ow1.lt gz hgz; omega))) (off_blk (fun gz hgz => by have := ow2.lt gz hgz; omega)))))<|rK 3 15 (Reight_any n W3) ?_
 rintro _ W4 ⟨qe1, EE1, hE1, rfl, hbe1, hq5, ch4⟩
 have zz4 := ch4.size
 have hBt1 : ∀ g off, (some ⟨qe1, 0, none⟩ : Option Addr) = some ⟨g, off, none⟩ → W3.heap.size ≤ g ∧ g < W4.heap.size := fun g off e => by cases e; exact hq5
 refine rX 4 16 rfl rfl (ap8 8 8 (oA ow3 ch4).own hbe1 (fun h => by cases h) 72 ((k ++ r) ++ EE1)) ?_
 rintro _ W5 ⟨AA3, nn3, rfl, ow5, ch5, ha3⟩
 have zz5 := ch5.size
 have hq6 := ow5.nc
 have hq7 := ow5.cm
 refine rP 5 3 (.slice AA3 72 nn3)<|eN<|sR<|rP 0 17 (.slice AA3 72 nn3)<|rP 1 18 (pw w 65)<|rq 2 19 (.slice (some ⟨w.heap.size, 65, none⟩) 32 32) rfl (Mur.arr_slice_at 28 5 (.tmp 18) 32 rfl Tryz.underlying28 (by kernel_rfl) w.heap.size 65 (by kernel_rfl))<|rX 3 20 rfl rfl (ap8 32 32 ow5.own (Mur.byt_rng (Mur.att_tag hk hr (Chg.hp ch5 (qT ch4 (Chg.hp ch3 (Chg.hp ch2 hb1 (off_blk (fun gz hgz => by have := ow1.lt gz hgz; omega))) (off_blk (fun gz hgz => by have := ow2.lt gz hgz; omega)))) (off_blk (fun gz hgz => by have := ow3.lt gz hgz; omega)))) ht) (fun h => by cases h) 104 (((k ++ r) ++ EE1) ++ t)) ?_
 rintro _ W6 ⟨AA4, nn4, rfl, ow6, ch6, ha4⟩
 have zz6 := ch6.size
 have hq8 := ow6.nc
 have hq9 := ow6.cm
 refine rP 4 2 (.slice AA4 104 nn4)<|eN<|wp_ret<|?_
 obtain ⟨q, hq_, hqb, hql⟩ : ∃ g, AA4 = some ⟨g, 0, none⟩ ∧ W1.heap.size ≤ g ∧ g < W6.heap.size := Mur.own8_someq ow6 (by omega)
 subst hq_
 exact rt (.slice (some ⟨q, 0, none⟩) 104 nn4) ⟨q, nn4, _, Go.Lib.hid (by rw [hE1.out]; simp only [Mur.rawL, List.append_assoc]), rfl, ow6.byt, ⟨by omega, by omega⟩, ⟨by omega, by have h_ := ow6.cm; unfold Go.maxLen at h_; omega⟩, (Chg.step (Chg.step (kA (Chg.step (Chg.step (zA ch1 : Chg [] w W1) ch2 (newOr_blk (fun g hg => by have := ow1.lt g hg; omega))) ch3 (newOr_blk (fun g hg => by have := ow2.lt g hg; omega))) ch4) ch5 (newOr_blk (fun g hg => by have := ow3.lt g hg; omega))) ch6 (newOr_blk (fun g hg => by have := ow5.lt g hg; omega)))⟩
theorem Compare_any (A : Option Addr) (n c : Nat) (l : List UInt8) (B : Option Addr) (m d : Nat) (r : List UInt8) (w : World) (hy1 : Byt w A n l) (hy2 : Byt w B m r) : Calls Tryz.prog 84 #[.slice A n c, .slice B m d] w fun e w' => e = .returned (vI (Go.Lib.compareBytes l r)) ∧ w = w' := by
 refine calls_of_wp Tryz.func84 rfl ?_
 exact sR<|rP 0 4 (vI 0)<|eN<|sR<|rP 0 5 (.slice A n c)<|rP 1 6 (.slice B m d)<|rq 2 7 (vI (Go.Lib.compareBytes l r)) rfl (Mur.run_cmp Tryz.func100 (by kernel_rfl) (by kernel_rfl) (by kernel_rfl) (by kernel_rfl) (.tmp 5) (.tmp 6) _ rfl A n c l B m d r (by kernel_rfl) (by kernel_rfl) hy1 hy2)<|rP 3 4 (vI (Go.Lib.compareBytes l r))<|eN<|wp_ret<|rt (vI (Go.Lib.compareBytes l r)) ⟨rfl, rfl⟩
theorem Less_any (k1 r1 t1 : List UInt8) (n1 : Int) (hk1 : k1.length = 32) (hr1 : r1.length = 32) (ht1 : t1.length = 32) (k2 r2 t2 : List UInt8) (n2 : Int) (hk2 : k2.length = 32) (hr2 : r2.length = 32) (ht2 : t2.length = 32) (w : World) : Calls Tryz.prog 56 #[.agg (attC k1 r1 n1 t1).toArray, .agg (attC k2 r2 n2 t2).toArray] w fun e w' => e = .returned (.bool (decide (Go.Lib.compareBytes (Mur.rawL k1 r1 n1 t1) (Mur.rawL k2 r2 n2 t2) < 0))) ∧ Chg [] w w' := by
 refine calls_of_wp Tryz.func56 rfl ?_
 refine sR<|nW 0 2 ((Mur.attC k1 r1 n1 t1).toArray) 35 fun W1 hb1 ch1 sz1 => nW 1 3 ((Mur.attC k2 r2 n2 t2).toArray) 35 fun W2 hb2 ch2 sz2 => rP 2 4 vF<|eN<|wp_seq<|?_
 refine dReg ([]) (by kernel_rfl) ?_
 intro W3 ch3 sz3
 have zz3 := ch3.size
 have sS1 : Chg ([]) W3 W3 := (Chg.refl _).more (by simp)
 refine dV 0 5 _ rfl rfl (fun w' hw' => lA (qT hw' (qT ch3 (qT ch2 hb1))) (Mur.attC_size hk1 hr1 ht1)) sS1<|dV 2 7 _ rfl rfl (fun w' hw' => lA (qT hw' (qT ch3 hb2)) (Mur.attC_size hk2 hr2 ht2)) sS1<|dO 1<|oK 6 (raw_any k1 r1 t1 n1 hk1 hr1 ht1 W3) ?_
 rintro _ W4 ⟨qr1, cr1, RB1, hRB1, rfl, hbr1, hq1, hq2, ch4⟩
 have zz4 := ch4.size
 have hBt1 : ∀ g off, (some ⟨qr1, 0, none⟩ : Option Addr) = some ⟨g, off, none⟩ → W3.heap.size ≤ g ∧ g < W4.heap.size := fun g off e => by cases e; exact hq1
 have sS2 := kA sS1 ch4
 refine aN sS2<|dO 3<|oK 8 (raw_any k2 r2 t2 n2 hk2 hr2 ht2 W4) ?_
 rintro _ W5 ⟨qr2, cr2, RB2, hRB2, rfl, hbr2, hq3, hq4, ch5⟩
 have zz5 := ch5.size
 have hBt2 : ∀ g off, (some ⟨qr2, 0, none⟩ : Option Addr) = some ⟨g, off, none⟩ → W4.heap.size ≤ g ∧ g < W5.heap.size := fun g off e => by cases e; exact hq3
 have sS3 := kA sS2 ch5
 refine aN sS3<|dO 4<|oK 9 (Compare_any (some ⟨qr1, 0, none⟩) 104 cr1 RB1 (some ⟨qr2, 0, none⟩) 104 cr2 RB2 W5 (Mur.byt_chg hbr1 ch5 (fun g off e hl => trivial)) hbr2) ?_
 rintro _ _ ⟨rfl, rfl⟩
 refine aN sS3 ?_
 by_cases hx1 : (Go.Lib.compareBytes RB1 RB2) < (0 : Int)
 ·exact dV 5 10 vT rfl rfl (fun w' hw' => boolT (b := decide ((Go.Lib.compareBytes RB1 RB2) < (0 : Int))) (decide_eq_true (by first | exact hx1 | omega)) (by kernel_rfl)) sS3<|dW 6 4 vT sS3<|dN<|wp_ret<|rt vT ⟨by rw [← hRB1.out, ← hRB2.out, decide_eq_true (by assumption)], (kA (kA (kA (kA (zA ch1 : Chg [] w W1) ch2) ch3) ch4) ch5)⟩
 exact dV 5 10 vF rfl rfl (fun w' hw' => boolF (b := decide ((Go.Lib.compareBytes RB1 RB2) < (0 : Int))) (decide_eq_false (by first | exact hx1 | omega)) (by kernel_rfl)) sS3<|dW 6 4 vF sS3<|dN<|wp_ret<|rt vF ⟨by rw [← hRB1.out, ← hRB2.out, decide_eq_false (by assumption)], (kA (kA (kA (kA (zA ch1 : Chg [] w W1) ch2) ch3) ch4) ch5)⟩
end Go.Proofs.YtgbadghjnpbiaaaGreatDoor
namespace Mur
open Go Go.RowKit Wk
section
variable {k r t : List UInt8} {n : Int}
theorem raw_len (hk : k.length = 32) (hr : r.length = 32) (ht : t.length = 32) : (rawL k r n t).length = 104 := by simp only [rawL, List.length_append, hk, hr, ht, e8_length]
theorem raw_eq : rawL k r n t = k ++ (r ++ (e8 (u64n n) ++ t)) := by simp only [rawL, List.append_assoc]
theorem raw_k (hk : k.length = 32) : ((rawL k r n t).take 32).drop 0 = k := by
 rw [raw_eq, List.take_left' hk]
 rfl
theorem raw_r (hk : k.length = 32) (hr : r.length = 32) : ((rawL k r n t).take 64).drop 32 = r := by
 rw [raw_eq, ← List.append_assoc, List.take_left' (by rw [List.length_append, hk, hr]), List.drop_left' hk]
theorem raw_e (hk : k.length = 32) (hr : r.length = 32) : ((rawL k r n t).take 72).drop 64 = e8 (u64n n) := by
 rw [rawL, List.take_left' (by rw [List.length_append, List.length_append, hk, hr, e8_length]), List.drop_left' (by rw [List.length_append, hk, hr])]
theorem raw_t (hk : k.length = 32) (hr : r.length = 32) (ht : t.length = 32) : ((rawL k r n t).take 104).drop 72 = t := by
 rw [List.take_of_length_le (by rw [raw_len hk hr ht]; exact Nat.le_refl _), rawL, List.drop_left' (by rw [List.length_append, List.length_append, hk, hr, e8_length])]
end
theorem u8_ofNat {x : UInt8} {m : Nat} (h : m % 256 = x.toNat) : UInt8.ofNat m = x := UInt8.toNat_inj.1 (by simp; omega)
theorem be_e8 {E : List UInt8} (h : E.length = 8) : e8 (be8 E) = E := by
 rcases E with _ | ⟨a, _ | ⟨b, _ | ⟨c, _ | ⟨d, _ | ⟨e, _ | ⟨f, _ | ⟨g, _ | ⟨i, _ | ⟨j, E⟩⟩⟩⟩⟩⟩⟩⟩⟩ <;> simp at h
 have ha := a.toNat_lt; have hb := b.toNat_lt; have hc := c.toNat_lt; have hd := d.toNat_lt
 have he := e.toNat_lt; have hf := f.toNat_lt; have hg := g.toNat_lt; have hi := i.toNat_lt
 simp only [be8, List.getD_cons_zero, List.getD_cons_succ, e8]
 rw [u8_ofNat (x := a) (by omega), u8_ofNat (x := b) (by omega), u8_ofNat (x := c) (by omega), u8_ofNat (x := d) (by omega), u8_ofNat (x := e) (by omega), u8_ofNat (x := f) (by omega), u8_ofNat (x := g) (by omega), u8_ofNat (x := i) (by omega)]
theorem u64n_nat {V : Nat} (h : V ≤ 5000) : u64n ((V : Nat) : Int) = V := by
 have h1 : IntKind.u64.wrap ((V : Nat) : Int) = ((V : Nat) : Int) % 18446744073709551616 := rfl
 unfold u64n
 rw [h1]
 omega
theorem raw_back {b K R E T : List UInt8} {V : Nat} (hb : b.length = 104) (hK : (b.take 32).drop 0 = K) (hR : (b.take 64).drop 32 = R) (hE : (b.take 72).drop 64 = E) (hT : (b.take 104).drop 72 = T) (hV : be8 E = V) (hm : V ≤ 5000) : rawL K R ((V : Nat) : Int) T = b := by
 have hEl : E.length = 8 := by rw [← hE, List.length_drop, List.length_take, hb]; rfl
 unfold rawL
 rw [u64n_nat hm, ← hV, be_e8 hEl, ← hK, ← hR, ← hE, ← hT]
 have e1 : (b.take 64).drop 32 = (b.drop 32).take 32 := by rw [List.drop_take]
 have e2 : (b.take 72).drop 64 = (b.drop 64).take 8 := by rw [List.drop_take]
 have e3 : (b.take 104).drop 72 = b.drop 72 := by rw [List.take_of_length_le (by omega)]
 have s1 : b.take 64 = b.take 32 ++ (b.drop 32).take 32 := List.take_add (i := 32) (j := 32)
 have s2 : b.take 72 = b.take 64 ++ (b.drop 64).take 8 := List.take_add (i := 64) (j := 8)
 rw [e1, e2, e3, List.drop_zero, ← s1, ← s2, List.take_append_drop]
theorem sub_len {b : List UInt8} {lo hi m : Nat} (hb : b.length = 104) (h : hi ≤ 104) (hm : lo + m = hi) : ((b.take hi).drop lo).length = m := by
 rw [List.length_drop, List.length_take, hb]
 omega
end Mur
