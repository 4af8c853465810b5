/- Runs that adverts needs: halves of bytes, quotients. No program in sight. The program's results, as elements. Slices of results that come in. attest: what may be, eight bytes, the tag, Make, Right. attest's document: eight bytes, a body, Make. -/
import Derived.Lib.AppendZerosOnto
import Derived.Test.YtfhneademopciaaDoorProg
import Derived.Test.YtfhneademopciaaDoorPO5
namespace Mur
open Go Go.RowKit Wk Go.Lib
section
variable {P : Program} {w : World} {a : Act} {o : Oper}
theorem quo_nat (t ty : TypeId) (x y : Operand) (ho : o.op = .binOp .quo t x y ty) (i n : Nat) (hx : a.eval x = .int .i64 ((i : Nat) : Int)) (hy : a.eval y = .int .i64 ((n : Nat) : Int)) (hn : 0 < n) (hi : i ≤ 9223372036854775807) :
    (execOp a.eval o).run P w = .ok (.value (.int .i64 ((i / n : Nat) : Int))) w := by
  have hne : ¬ n = 0 := by omega
  have h1 : Int.tdiv (i : Int) (n : Int) = ((i / n : Nat) : Int) := by
    rw [Int.tdiv_eq_ediv_of_nonneg (by omega)]
    exact_mod_cast rfl
  have hlt : i / n ≤ i := Nat.div_le_self i n
  have h2 : IntKind.i64.wrap ((i / n : Nat) : Int) = ((i / n : Nat) : Int) := IntWalk.i64_in _ ⟨by have := Int.natCast_nonneg (i / n); omega, by have : ((i / n : Nat) : Int) ≤ (i : Int) := Int.ofNat_le.2 hlt; omega⟩
  unfold execOp
  simp only [ho, hx, hy]
  simp only [eqGuard, binOp]
  simp [Op.intDiv, hne, h1]
  first | done | exact_mod_cast h2
theorem bits_and_u8 (a b : UInt8) : bits .and .u8 ((a.toNat : Nat) : Int) ((b.toNat : Nat) : Int) = (((a &&& b).toNat : Nat) : Int) := by
  show IntKind.u8.wrap ((BitVec.ofInt 8 ((a.toNat : Nat) : Int) &&& BitVec.ofInt 8 ((b.toNat : Nat) : Int)).toNat : Int) = _
  rw [BitVec.ofInt_natCast, BitVec.ofInt_natCast, UInt8.toNat, BitVec.ofNat_toNat, BitVec.setWidth_eq, UInt8.toNat, BitVec.ofNat_toNat, BitVec.setWidth_eq]
  show ((((a &&& b).toNat : Nat) : Int)) % 256 = _
  have := (a &&& b).toNat_lt
  omega
theorem and8_15 (t ty : TypeId) (x y : Operand) (ho : o.op = .binOp .and t x y ty) (b : UInt8) (hx : a.eval x = .int .u8 ((b.toNat : Nat) : Int)) (hy : a.eval y = .int .u8 15) : (execOp a.eval o).run P w = .ok (.value (.int .u8 (((b &&& 15).toNat : Nat) : Int))) w := by
  have key : (binOp .and t (.int .u8 ((b.toNat : Nat) : Int)) (.int .u8 15)).run P w = .ok (.int .u8 (bits .and .u8 ((b.toNat : Nat) : Int) (((15 : UInt8).toNat : Nat) : Int))) w := rfl
  have hg : (eqGuard .and t x y (.int .u8 ((b.toNat : Nat) : Int)) (.int .u8 15)).run P w = .ok () w := rfl
  rw [bits_and_u8] at key
  unfold execOp
  simp only [ho, hx, hy]
  simp only [Sem.run_bind, Sem.run_pure, hg, Result.andThen_ok, key]
theorem shr8_4 (t ty : TypeId) (x y : Operand) (ho : o.op = .binOp .shr t x y ty) (b : UInt8) (hx : a.eval x = .int .u8 ((b.toNat : Nat) : Int)) (hy : a.eval y = .int .u64 4) : (execOp a.eval o).run P w = .ok (.value (.int .u8 (((b >>> 4).toNat : Nat) : Int))) w := by
  have h0 : ((b >>> 4).toNat : Nat) = b.toNat / 16 := by
    rw [UInt8.toNat_shiftRight]
    show b.toNat >>> 4 = _
    rw [Nat.shiftRight_eq_div_pow]
  have key : (binOp .shr t (.int .u8 ((b.toNat : Nat) : Int)) (.int .u64 4)).run P w = .ok (.int .u8 (((b >>> 4).toNat : Nat) : Int)) w := by
    have : (Op.shift .shr .u8 ((b.toNat : Nat) : Int) .u64 4).run P w = .ok (.int .u8 (((b >>> 4).toNat : Nat) : Int)) w := by
      unfold Op.shift
      rw [if_neg (by omega)]
      have hb : IntKind.u8.bits = 8 := rfl
      have h1 : min ((4 : Int).toNat) IntKind.u8.bits = 4 := by rw [hb]; rfl
      have h2 : Int.fdiv ((b.toNat : Nat) : Int) (2 ^ 4) = ((b.toNat / 16 : Nat) : Int) := by
        rw [Int.fdiv_eq_ediv_of_nonneg _ (by decide)]
        exact_mod_cast rfl
      simp only [h1, h2, Sem.run_pure, h0]
    exact this
  have hg : (eqGuard .shr t x y (.int .u8 ((b.toNat : Nat) : Int)) (.int .u64 4)).run P w = .ok () w := rfl
  unfold execOp
  simp only [ho, hx, hy]
  simp only [Sem.run_bind, Sem.run_pure, hg, Result.andThen_ok, key]
/-- append of so many zero results where there is no room. -/
theorem growZ (s x : Operand) (t tn e : TypeId) (ho : o.op = .call { callee := .builtin .append, args := #[s, x], argTypes := #[t, tn] }) (ht : P.underlying t = some (.slice e)) (kn : IntKind) (htn : P.underlying tn = some (.int kn))
    (hinfo : (P.info? e).map (fun i => (i.zero, i.size, i.bytes)) = some (some (.agg (attC z32 z32 0 z32).toArray), 97, 104)) (g i c0 k N : Nat) (cur : Array Value) (M : List Att) (hs : a.eval s = .slice (some ⟨g, 0, none⟩) i c0) (hx : a.eval x = .int .i64 ((k : Nat) : Int))
    (hg : w.heap[g]? = some (.cells cur e (0, 0))) (hM : cur.toList.take (i * 97) = rowA M) (hl : M.length = i) (hk : 0 < k) (hc : c0 < i + k) (hb : i + k ≤ 1000000) (hN : i + k = N) :
    ∃ v w1, (execOp a.eval o).run P w = .ok (.value v) w1 ∧ ∃ C cs, v = .slice (some ⟨w.heap.size, 0, none⟩) N C ∧ w1.heap[w.heap.size]? = some (.cells cs e (0, 0)) ∧ cs.toList.take (i * 97) = rowA M ∧ cs.size = C * 97 ∧ N ≤ C ∧ C ≤ maxLen ∧ Chg [] w w1 ∧ w.heap.size < w1.heap.size := by
  subst hN
  obtain ⟨i0, hi, hzz⟩ := Option.map_eq_some_iff.1 hinfo
  simp only [Prod.mk.injEq] at hzz
  obtain ⟨hz0, hz1, hz2⟩ := hzz
  have hold : (Builtin.firstCells i0.size i (.slice (some ⟨g, 0, none⟩) i c0)).run P w.drew = .ok (rowA M).toArray w.drew := by
    rw [hz1]
    refine run_firstCells_some (P := P) w.drew 97 i ⟨g, 0, none⟩ i c0 (rowA M) (by rw [rowA_len, hl]) fun j v hv => ?_
    have hr := range_row (w := w) hg
    rw [Addr.add_mid, Nat.zero_add]
    rw [← hM] at hv
    rw [List.getElem?_take] at hv
    split at hv
    · have := hr j v hv
      rw [Nat.zero_add] at this
      exact this
    · cases hv
  have hrun := run_append_grow_zeros (P := P) w t tn o.type e i0 (.agg (attC z32 z32 0 z32).toArray) .i64 kn ht htn hi hz0 (some ⟨g, 0, none⟩) i c0 (rowA M) hold k hk (by omega) hc (by omega) (by rw [hz2]; omega) (by
    rw [hz2]
    exact growslice_fits (bytes := 104) hc (by omega))
  have hge := grownCap_ge w (i + k) c0 e
  have hcm : grownCap w (i + k) c0 e ≤ maxLen := grownCap_le_maxLen w (i + k) c0 e (by unfold maxLen; omega)
  have hsz : ((Value.agg (attC z32 z32 0 z32).toArray).cells).size = 97 := attC_size rfl rfl rfl
  have hzc : ∀ m, (Builtin.zeroCells (Value.agg (attC z32 z32 0 z32).toArray).cells m).size = m * 97 := fun m => by
    unfold Builtin.zeroCells
    rw [Array.size_map, Array.size_range, hsz]
  obtain ⟨ROW, hROW⟩ : ∃ R : Array Value, R = (rowA M).toArray ++ Builtin.zeroCells (Value.agg (attC z32 z32 0 z32).toArray).cells k ++ Builtin.zeroCells (Value.agg (attC z32 z32 0 z32).toArray).cells (grownCap w (i + k) c0 e - (i + k)) := ⟨_, rfl⟩
  rw [← hROW] at hrun
  refine ⟨_, w.drew.alloc (.cells ROW e), ?_, _, ROW, rfl, heap_alloc_new w.drew _, ?_, ?_, hge, hcm, ⟨rfl, rfl, rfl, by simp, fun q hq _ => Below.heap_alloc w.drew _ q hq⟩, by simp⟩
  · unfold execOp
    simp only [ho, resolve, invoke, builtin, Sem.run_bind, Sem.run_pure, Result.andThen_ok, List.map_toArray, List.map_cons, List.map_nil, hs, hx, hrun]
  · rw [hROW, Array.append_assoc, Array.toList_append]
    exact List.take_left' (by rw [rowA_len, hl])
  · rw [hROW, Array.size_append, Array.size_append, hzc, hzc, List.size_toArray, rowA_len, hl]
    omega
theorem build1 (t e : TypeId) (x : Operand) (ho : o.op = .buildSlice t 1 #[(0, x)]) (ht : P.underlying t = some (.slice e)) (hinfo : (P.info? e).map (fun i => (i.zero, i.size, i.bytes)) = some (some (.agg (attC z32 z32 0 z32).toArray), 97, 104))
    (k r tt : List UInt8) (n : Int) (hk : k.length = 32) (hr : r.length = 32) (htt : tt.length = 32) (hx : a.eval x = .agg (attC k r n tt).toArray) :
    ∃ v w1, (execOp a.eval o).run P w = .ok (.value v) w1 ∧ v = .slice (some ⟨w.heap.size, 0, none⟩) 1 1 ∧ w1.heap[w.heap.size]? = some (.cells (attC k r n tt).toArray e (0, 0)) ∧ Chg [] w w1 ∧ w.heap.size < w1.heap.size := by
  obtain ⟨i0, hi, hzz⟩ := Option.map_eq_some_iff.1 hinfo
  simp only [Prod.mk.injEq] at hzz
  obtain ⟨hz0, hz1, hz2⟩ := hzz
  have hfill : ∀ Z : Array Value, Z.size = 97 → Instr.fill (fun i => some (i * 97, 97)) Z [(0, .agg (attC k r n tt).toArray)] = some (attC k r n tt).toArray := by
    intro Z hZ
    have hl := attC_length (n := n) hk hr htt
    have := fill_part (place := fun i => some (i * 97, 97)) (L := Z.toList) (vs := attC k r n tt) (v := .agg (attC k r n tt).toArray) (i := 0) (off := 0) (size := 97) (rest := []) (R := some (attC k r n tt).toArray) (by simp) rfl hl (by rw [Array.length_toList, hZ]; omega) (by
      have e : splice Z.toList 0 (attC k r n tt) = attC k r n tt := by
        unfold splice
        rw [hl, List.drop_of_length_le (by rw [Array.length_toList, hZ]; omega)]
        simp
      rw [e]
      rfl)
    simpa using this
  have hrun : (Instr.buildSlice t 1 [(0, Value.agg (attC k r n tt).toArray)].toArray).run P w = .ok (.slice (some ⟨w.heap.size, 0, none⟩) 1 1) (w.alloc (.cells (attC k r n tt).toArray e)) := by
    have hf := hfill ((Array.range (1 * 97)).map ((Value.agg (attC z32 z32 0 z32).toArray).cells[· % 97]!)) (by rw [Array.size_map, Array.size_range])
    have hs : (Value.agg (attC z32 z32 0 z32).toArray).cells.size = 97 := attC_size rfl rfl rfl
    unfold Instr.buildSlice
    simp [run_underlying ht, Go.sizeOf, typeInfo, zeroValue, hi, hz0, hz1, hs]
    simp at hf
    rw [hf]
    rfl
  refine ⟨_, _, ?_, rfl, heap_alloc_new w _, Chg.alloc w _, by simp⟩
  unfold execOp
  simp only [ho, List.map_toArray, List.map_cons, List.map_nil, hx]
  simp only [Sem.run_bind, hrun, Result.andThen_ok, Sem.run_pure]
theorem run_ovl {f : FuncId} {fn : Func} {tS tR e : TypeId} (hf : P.funcs[f]? = some fn) (hname : (fn.name == "runtime.NumGoroutine") = false) (hb : fn.body.isNone = true) (hn : Extern.findNext fn = none) (he : Extern.find fn = some (Extern.SlicesOverlaps.overlaps #[tS, tS] #[tR]))
    (ht : P.underlying tS = some (.slice e)) (hinfo : (P.info? e).map (fun i => (i.zero, i.size, i.bytes)) = some (some (.agg (attC z32 z32 0 z32).toArray), 97, 104)) (x y : Operand) (ts : Array TypeId) (ho : o.op = .call { callee := .value (.func f), args := #[x, y], argTypes := ts })
    (q g off la ca lb cb : Nat) (hx : a.eval x = .slice (some ⟨q, 0, none⟩) la ca) (hy : a.eval y = .slice (some ⟨g, off, none⟩) lb cb) (hne : q ≠ g) (tA tB : TypeId) (c1 c2 : Array Value) (hq : w.heap[q]? = some (.cells c1 tA (0, 0))) (hg : w.heap[g]? = some (.cells c2 tB (0, 0))) (h2 : 0 < c2.size) :
    (execOp a.eval o).run P w = .ok (.value (.bool false)) w := by
  obtain ⟨i0, hi, hzz⟩ := Option.map_eq_some_iff.1 hinfo
  simp only [Prod.mk.injEq] at hzz
  obtain ⟨hz0, hz1, hz2⟩ := hzz
  have key := run_overlaps_apart (P := P) w tS tR e ht 97 (fun w => by simp [Go.sizeOf, typeInfo, hi, hz1]) ⟨q, 0, none⟩ ⟨g, off, none⟩ la ca lb cb hne tA tB c1.size c2.size (by simp [World.shape?, hq]) (by simp [World.shape?, hg]) (by omega) (by simp [World.frozen?, hq]) (by simp [World.frozen?, hq])
  exact ext_run f [x, y] ts [.slice (some ⟨q, 0, none⟩) la ca, .slice (some ⟨g, off, none⟩) lb cb] ho (by simp [hx, hy]) (by rw [run_callFunc_extern hf hname hb hn he]; show ((Extern.SlicesOverlaps.overlaps #[tS, tS] #[tR] #[.slice (some ⟨q, 0, none⟩) la ca, .slice (some ⟨g, off, none⟩) lb cb]).run P w).andThen _ = _; rw [key]; rfl)
end
theorem cut_drop {cur : List Value} {L : List Att} {i n : Nat} (h : cur.take (n * 97) = rowA L) : (cur.drop (i * 97)).take (rowA (L.drop i)).length = rowA (L.drop i) := by
  have e : rowA (L.drop i) = (cur.drop (i * 97)).take (n * 97 - i * 97) := by rw [rowA_drop, ← h, List.drop_take]
  have e2 : cur.drop (i * 97) = rowA (L.drop i) ++ (cur.drop (i * 97)).drop (n * 97 - i * 97) := by rw [e, List.take_append_drop]
  rw [e2, List.take_left]
theorem splice_len {cs r : List Value} {off m : Nat} (h : off + r.length ≤ m) (hm : cs.length = m) : (splice cs off r).length = m := by
  unfold splice
  simp only [List.length_append, List.length_take, List.length_drop]
  omega
theorem all15 {l : List UInt8} {n : Nat} (hl : l.length = n) (h : ∀ j, j < n → l.getD j 0 ≤ 15) : (l.all fun x => decide (x ≤ 15)) = true := by
  rw [List.all_eq_true]
  intro x hx
  obtain ⟨j, hj, rfl⟩ := List.getElem_of_mem hx
  have := h j (by omega)
  rw [List.getD_eq_getElem?_getD, List.getElem?_eq_getElem hj] at this
  exact decide_eq_true this
theorem some15 {l : List UInt8} {n i : Nat} (hl : l.length = n) (hi : i < n) (h : 15 < l.getD i 0) : (l.all fun x => decide (x ≤ 15)) = false := by
  cases hq : (l.all fun x => decide (x ≤ 15))
  · rfl
  · rw [List.all_eq_true] at hq
    have h1 : l.getD i 0 = l[i] := by rw [List.getD_eq_getElem?_getD, List.getElem?_eq_getElem (by omega)]; rfl
    have := of_decide_eq_true (hq (l[i]'(by omega)) (List.getElem_mem _))
    rw [h1] at h
    exact absurd h (UInt8.not_lt.2 this)
end Mur
namespace Go.Proofs.YtfhneademopciaaDoor
open Mur (attC z32)
theorem attI : (Tryd.prog.info? 32).map (fun i => (i.zero, i.size, i.bytes)) = some (some (.agg (attC z32 z32 0 z32).toArray), 97, 104) := by kernel_rfl
end Go.Proofs.YtfhneademopciaaDoor
namespace Go.Proofs.YtfhneademopciaaDoor
open Go.RowKit Go.WideShapes Go.ChangeShapes
open Mur (All2 Leaf Att SlA rowA attC b8s)
set_option maxRecDepth 100000
section
variable {H : Type} {enc : TypeId × Value → H} {W : World}
def lsA : List TypeId := (List.replicate 32 5 ++ (List.replicate 32 5 ++ ([3] ++ List.replicate 32 5)))
theorem cAtt : Tryd.prog.cellsOf 32 = lsA.length := by kernel_rfl
theorem leaf_att {cs : List Value} (ha : All2 (Leaf enc Tryd.prog W 0 (fun _ => true) true) lsA cs) : ∃ x : Att, cs = x.C := by
  obtain ⟨c1, c2, e1, h1, ha⟩ := Mur.all2_split ha
  obtain ⟨c3, c4, e2, h2, ha⟩ := Mur.all2_split ha
  obtain ⟨c5, c6, e3, h3, h4⟩ := Mur.all2_split ha
  obtain ⟨k, hk, rfl⟩ := Mur.leaf_u8s Tryd.underlying5 32 _ h1
  obtain ⟨r, hr, rfl⟩ := Mur.leaf_u8s Tryd.underlying5 32 _ h2
  obtain ⟨t, ht, rfl⟩ := Mur.leaf_u8s Tryd.underlying5 32 _ h4
  rcases h3 with _ | ⟨h3, h5⟩
  cases h5
  obtain ⟨n, rfl, hn⟩ := Mur.leaf_int Tryd.underlying3 h3
  refine ⟨⟨k, r, t, n, hk, hr, ht, hn⟩, ?_⟩
  subst e3 e2
  rw [e1]
  rfl
theorem open_atts {v : Value} {d : DataW H} {ps : List MemPlace} {r0 : Reach} {b0 : Nat} (hval : Value.okWide Tryd.prog W r0 b0 22 v) (h : DataW.Trod enc Tryd.prog W 0 (fun _ => true) true 22 v d ps) :
    ∃ A n c L, v = .slice A n c ∧ (n ≤ c ∧ c ≤ 9223372036854775807) ∧ (A = none → c = 0) ∧ SlA W A n L := by
  obtain ⟨A, n, c, rows, rfl, hnc, hcm, hnil, hlen, hrows, hat⟩ := Mur.open_rows 3 lsA Tryd.underlying22 leafs_a cAtt (by decide) (Mur.slice_cells Tryd.underlying22 ⟨_, _, hval⟩) h
  have key : ∀ rows : List (List Value), (∀ r ∈ rows, All2 (Leaf enc Tryd.prog W 0 (fun _ => true) true) lsA r) → ∃ L : List Att, rows = L.map Att.C := by
    intro rows
    induction rows with
    | nil => exact fun _ => ⟨[], rfl⟩
    | cons r rows ih =>
      intro hr
      obtain ⟨L, rfl⟩ := ih fun x hx => hr x (by simp [hx])
      obtain ⟨x, rfl⟩ := leaf_att (hr r (by simp))
      exact ⟨x :: L, rfl⟩
  obtain ⟨L, rfl⟩ := key rows hrows
  have hl : L.length = n := by simpa using hlen
  refine ⟨A, n, c, L, rfl, ⟨hnc, by unfold maxLen at hcm; omega⟩, hnil, hl, by rw [Mur.rowA_len, hl], fun hn => ?_⟩
  have hp : 0 < n := by
    rcases Nat.eq_zero_or_pos n with h0 | h0
    · rw [List.eq_nil_of_length_eq_zero (hl.trans h0)] at hn
      exact absurd rfl hn
    · exact h0
  obtain ⟨g, off, e, hr⟩ := hat hp
  refine ⟨g, off, e, fun j v hv => ?_⟩
  have hj := (List.getElem?_eq_some_iff.1 hv).1
  rw [Mur.rowA_len] at hj
  obtain ⟨x, hx⟩ : ∃ x, L[j / 97]? = some x := ⟨_, List.getElem?_eq_getElem (by omega)⟩
  have h1 := hr (j / 97) x.C (by simp [hx])
  have h2 : x.C[j % 97]? = some v := by
    have e1 : (rowA L)[j]? = ((rowA L).drop (j / 97 * 97))[j % 97]? := by
      rw [List.getElem?_drop]
      congr 1
      omega
    rw [e1, ← Mur.rowA_drop] at hv
    obtain ⟨h3, rfl⟩ := List.getElem?_eq_some_iff.1 hx
    rw [List.drop_eq_getElem_cons h3, Mur.rowA_cons, List.getElem?_append_left (by rw [Att.C_len]; omega)] at hv
    exact hv
  have h4 := h1 (j % 97) v h2
  have e4 : off + j / 97 * lsA.length + j % 97 = off + j := by
    have : lsA.length = 97 := rfl
    rw [this]
    omega
  rw [e4] at h4
  exact h4
end
end Go.Proofs.YtfhneademopciaaDoor
namespace Go.Proofs.YtfhneademopciaaDoor
open Go.RowKit
open Mur (b8s Byt Own8 Seg Segs flat cutA attC)
set_option maxRecDepth 100000
set_option maxHeartbeats 4000000
theorem may_any (k r t : List UInt8) (n : Int) (hk : k.length = 32) (hr : r.length = 32) (_ht : t.length = 32) (w : World) : Calls Tryd.prog 60 #[.agg (attC k r n t).toArray] w fun e w' => e = .returned (.bool (decide (Mur.may n))) ∧ Wk.Chg [] w w' := by
  refine calls_of_wp Tryd.func60 rfl ?_
  refine wp_seq ?_
  refine Wk.reg ?_
  refine Wk.rEx 0 (some 1) _ rfl rfl (by kernel_rfl) (Wk.new_ex (.pointer (some ⟨w.heap.size, 0, none⟩)) ((Mur.attC k r n t).toArray) 32 (by kernel_rfl)) ?_
  rintro _ W1 ⟨rfl, hb1, ch1, sz1⟩
  have zz1 := ch1.size
  refine Wk.rPure 1 (some 2) (.bool false) rfl rfl (by kernel_rfl) (by kernel_rfl) ?_
  refine Wk.rEnd 2 rfl ?_
  refine Wk.nxt ?_
  refine wp_seq ?_
  refine Wk.reg ?_
  refine Wk.rPure 0 (some 3) (.pointer (some ⟨w.heap.size, 64, none⟩)) rfl rfl (by kernel_rfl) (by kernel_rfl) ?_
  refine Wk.rPure 1 (some 4) (.int .i64 n) rfl rfl (by kernel_rfl) (Wk.load1 3 (.tmp 3) rfl (by kernel_rfl) ⟨w.heap.size, 64, none⟩ (by kernel_rfl) (.int .i64 n) (Mur.att_len hk hr hb1)) ?_
  by_cases hx1 : n ≥ (1 : Int)
  · refine Wk.rPure 2 (some 5) (.bool true) rfl rfl (by kernel_rfl) (Wk.boolT (b := decide (n ≥ (1 : Int))) (decide_eq_true (by first | exact hx1 | omega)) (by kernel_rfl)) ?_
    refine Wk.rPure 3 (some 6) (.bool true) rfl rfl (by kernel_rfl) (by kernel_rfl) ?_
    refine Wk.rPure 4 (some 7) (.pointer (some ⟨w.heap.size, 64, none⟩)) rfl rfl (by kernel_rfl) (by kernel_rfl) ?_
    refine Wk.rPure 5 (some 8) (.int .i64 n) rfl rfl (by kernel_rfl) (Wk.load1 3 (.tmp 7) rfl (by kernel_rfl) ⟨w.heap.size, 64, none⟩ (by kernel_rfl) (.int .i64 n) (Mur.att_len hk hr hb1)) ?_
    by_cases hx2 : n ≤ (5000 : Int)
    · refine Wk.rPure 6 (some 9) (.bool true) rfl rfl (by kernel_rfl) (Wk.boolT (b := decide (n ≤ (5000 : Int))) (decide_eq_true (by first | exact hx2 | omega)) (by kernel_rfl)) ?_
      refine Wk.rPure 7 (some 10) (.bool true) rfl rfl (by kernel_rfl) (by kernel_rfl) ?_
      refine Wk.rPure 8 (some 2) (.bool true) rfl rfl (by kernel_rfl) (by kernel_rfl) ?_
      refine Wk.rEnd 9 rfl ?_
      refine Wk.nxt ?_
      refine wp_ret ?_
      have kk1 : Wk.Chg [] w W1 := Wk.Chg.step ((Wk.Chg.refl _).more (by simp)) ch1 trivial
      refine Wk.ret (.bool true) rfl (by kernel_rfl) ?_
      exact ⟨by rw [decide_eq_true (show Mur.may n from by unfold Mur.may; omega)], kk1⟩
    · refine Wk.rPure 6 (some 9) (.bool false) rfl rfl (by kernel_rfl) (Wk.boolF (b := decide (n ≤ (5000 : Int))) (decide_eq_false (by first | exact hx2 | omega)) (by kernel_rfl)) ?_
      refine Wk.rPure 7 (some 10) (.bool false) rfl rfl (by kernel_rfl) (by kernel_rfl) ?_
      refine Wk.rPure 8 (some 2) (.bool false) rfl rfl (by kernel_rfl) (by kernel_rfl) ?_
      refine Wk.rEnd 9 rfl ?_
      refine Wk.nxt ?_
      refine wp_ret ?_
      have kk2 : Wk.Chg [] w W1 := Wk.Chg.step ((Wk.Chg.refl _).more (by simp)) ch1 trivial
      refine Wk.ret (.bool false) rfl (by kernel_rfl) ?_
      exact ⟨by rw [decide_eq_false (show ¬ Mur.may n from by unfold Mur.may; omega)], kk2⟩
  · refine Wk.rPure 2 (some 5) (.bool false) rfl rfl (by kernel_rfl) (Wk.boolF (b := decide (n ≥ (1 : Int))) (decide_eq_false (by first | exact hx1 | omega)) (by kernel_rfl)) ?_
    refine Wk.rPure 3 (some 6) (.bool false) rfl rfl (by kernel_rfl) (by kernel_rfl) ?_
    refine Wk.rPass 4 (some 7) rfl rfl (by kernel_rfl) ?_
    refine Wk.rPass 5 (some 8) rfl rfl (by kernel_rfl) ?_
    refine Wk.rPass 6 (some 9) rfl rfl (by kernel_rfl) ?_
    refine Wk.rPure 7 (some 10) (.bool false) rfl rfl (by kernel_rfl) (by kernel_rfl) ?_
    refine Wk.rPure 8 (some 2) (.bool false) rfl rfl (by kernel_rfl) (by kernel_rfl) ?_
    refine Wk.rEnd 9 rfl ?_
    refine Wk.nxt ?_
    refine wp_ret ?_
    have kk3 : Wk.Chg [] w W1 := Wk.Chg.step ((Wk.Chg.refl _).more (by simp)) ch1 trivial
    refine Wk.ret (.bool false) rfl (by kernel_rfl) ?_
    exact ⟨by rw [decide_eq_false (show ¬ Mur.may n from by unfold Mur.may; omega)], kk3⟩
theorem Rmay_any (k r t : List UInt8) (n : Int) (hk : k.length = 32) (hr : r.length = 32) (_ht : t.length = 32) (w : World) : Calls Tryd.prog 50 #[.agg (attC k r n t).toArray] w fun e w' => e = .returned (.bool (decide (Mur.may n))) ∧ Wk.Chg [] w w' := by
  refine calls_of_wp Tryd.func50 rfl ?_
  refine wp_seq ?_
  refine Wk.reg ?_
  refine Wk.rEx 0 (some 1) _ rfl rfl (by kernel_rfl) (Wk.new_ex (.pointer (some ⟨w.heap.size, 0, none⟩)) ((Mur.attC k r n t).toArray) 32 (by kernel_rfl)) ?_
  rintro _ W1 ⟨rfl, hb1, ch1, sz1⟩
  have zz1 := ch1.size
  refine Wk.rPure 1 (some 2) (.bool false) rfl rfl (by kernel_rfl) (by kernel_rfl) ?_
  refine Wk.rEnd 2 rfl ?_
  refine Wk.nxt ?_
  refine wp_seq ?_
  refine Wk.reg ?_
  refine Wk.rPure 0 (some 3) (.pointer (some ⟨w.heap.size, 64, none⟩)) rfl rfl (by kernel_rfl) (by kernel_rfl) ?_
  refine Wk.rPure 1 (some 4) (.int .i64 n) rfl rfl (by kernel_rfl) (Wk.load1 3 (.tmp 3) rfl (by kernel_rfl) ⟨w.heap.size, 64, none⟩ (by kernel_rfl) (.int .i64 n) (Mur.att_len hk hr hb1)) ?_
  by_cases hx1 : n ≥ (1 : Int)
  · refine Wk.rPure 2 (some 5) (.bool true) rfl rfl (by kernel_rfl) (Wk.boolT (b := decide (n ≥ (1 : Int))) (decide_eq_true (by first | exact hx1 | omega)) (by kernel_rfl)) ?_
    refine Wk.rPure 3 (some 6) (.bool true) rfl rfl (by kernel_rfl) (by kernel_rfl) ?_
    refine Wk.rPure 4 (some 7) (.pointer (some ⟨w.heap.size, 64, none⟩)) rfl rfl (by kernel_rfl) (by kernel_rfl) ?_
    refine Wk.rPure 5 (some 8) (.int .i64 n) rfl rfl (by kernel_rfl) (Wk.load1 3 (.tmp 7) rfl (by kernel_rfl) ⟨w.heap.size, 64, none⟩ (by kernel_rfl) (.int .i64 n) (Mur.att_len hk hr hb1)) ?_
    by_cases hx2 : n ≤ (5000 : Int)
    · refine Wk.rPure 6 (some 9) (.bool true) rfl rfl (by kernel_rfl) (Wk.boolT (b := decide (n ≤ (5000 : Int))) (decide_eq_true (by first | exact hx2 | omega)) (by kernel_rfl)) ?_
      refine Wk.rPure 7 (some 10) (.bool true) rfl rfl (by kernel_rfl) (by kernel_rfl) ?_
      refine Wk.rPure 8 (some 2) (.bool true) rfl rfl (by kernel_rfl) (by kernel_rfl) ?_
      refine Wk.rEnd 9 rfl ?_
      refine Wk.nxt ?_
      refine wp_ret ?_
      have kk1 : Wk.Chg [] w W1 := Wk.Chg.step ((Wk.Chg.refl _).more (by simp)) ch1 trivial
      refine Wk.ret (.bool true) rfl (by kernel_rfl) ?_
      exact ⟨by rw [decide_eq_true (show Mur.may n from by unfold Mur.may; omega)], kk1⟩
    · refine Wk.rPure 6 (some 9) (.bool false) rfl rfl (by kernel_rfl) (Wk.boolF (b := decide (n ≤ (5000 : Int))) (decide_eq_false (by first | exact hx2 | omega)) (by kernel_rfl)) ?_
      refine Wk.rPure 7 (some 10) (.bool false) rfl rfl (by kernel_rfl) (by kernel_rfl) ?_
      refine Wk.rPure 8 (some 2) (.bool false) rfl rfl (by kernel_rfl) (by kernel_rfl) ?_
      refine Wk.rEnd 9 rfl ?_
      refine Wk.nxt ?_
      refine wp_ret ?_
      have kk2 : Wk.Chg [] w W1 := Wk.Chg.step ((Wk.Chg.refl _).more (by simp)) ch1 trivial
      refine Wk.ret (.bool false) rfl (by kernel_rfl) ?_
      exact ⟨by rw [decide_eq_false (show ¬ Mur.may n from by unfold Mur.may; omega)], kk2⟩
  · refine Wk.rPure 2 (some 5) (.bool false) rfl rfl (by kernel_rfl) (Wk.boolF (b := decide (n ≥ (1 : Int))) (decide_eq_false (by first | exact hx1 | omega)) (by kernel_rfl)) ?_
    refine Wk.rPure 3 (some 6) (.bool false) rfl rfl (by kernel_rfl) (by kernel_rfl) ?_
    refine Wk.rPass 4 (some 7) rfl rfl (by kernel_rfl) ?_
    refine Wk.rPass 5 (some 8) rfl rfl (by kernel_rfl) ?_
    refine Wk.rPass 6 (some 9) rfl rfl (by kernel_rfl) ?_
    refine Wk.rPure 7 (some 10) (.bool false) rfl rfl (by kernel_rfl) (by kernel_rfl) ?_
    refine Wk.rPure 8 (some 2) (.bool false) rfl rfl (by kernel_rfl) (by kernel_rfl) ?_
    refine Wk.rEnd 9 rfl ?_
    refine Wk.nxt ?_
    refine wp_ret ?_
    have kk3 : Wk.Chg [] w W1 := Wk.Chg.step ((Wk.Chg.refl _).more (by simp)) ch1 trivial
    refine Wk.ret (.bool false) rfl (by kernel_rfl) ?_
    exact ⟨by rw [decide_eq_false (show ¬ Mur.may n from by unfold Mur.may; omega)], kk3⟩
theorem eight_any (n : Int) (w : World) : Calls Tryd.prog 80 #[.int .i64 n] w fun e w' => ∃ E, Hid (E = Mur.e8 (Mur.u64n n)) ∧ E.length = 8 ∧ e = .returned (.agg (b8s E).toArray) ∧ Wk.Chg [] w w' := by
  refine calls_of_wp Tryd.func80 rfl ?_
  refine wp_seq ?_
  refine Wk.reg ?_
  refine Wk.rEx 0 (some 2) _ rfl rfl (by kernel_rfl) (Wk.new_ex (.pointer (some ⟨w.heap.size, 0, none⟩)) #[.int .u8 0, .int .u8 0, .int .u8 0, .int .u8 0, .int .u8 0, .int .u8 0, .int .u8 0, .int .u8 0] 127 (by kernel_rfl)) ?_
  rintro _ W1 ⟨rfl, hb1, ch1, sz1⟩
  have zz1 := ch1.size
  refine Wk.rEnd 1 rfl ?_
  refine Wk.nxt ?_
  refine wp_seq ?_
  refine wp_seq ?_
  refine Wk.reg ?_
  refine Wk.rPure 0 (some 4) (.int .i64 0) rfl rfl (by kernel_rfl) (by kernel_rfl) ?_
  refine Wk.rEnd 1 rfl ?_
  refine Wk.nxt ?_
  refine wp_block ?_
  refine Wk.loopN 9 ?_
  refine Wk.rdS ?_
  refine wp_seq ?_
  refine Wk.reg ?_
  refine Wk.rPure 0 (some 5) (.bool true) rfl rfl (by kernel_rfl) (Wk.boolT (b := decide ((0 : Int) < (8 : Int))) (decide_eq_true (by decide)) (by kernel_rfl)) ?_
  refine Wk.rEnd 1 rfl ?_
  refine Wk.nxt ?_
  refine wp_seq ?_
  refine wp_cond_true (by kernel_rfl) ?_
  refine wp_skip ?_
  refine Wk.nxt ?_
  refine wp_seq ?_
  refine wp_block ?_
  refine wp_seq ?_
  refine Wk.reg ?_
  refine Wk.rPure 0 (some 6) (.int .i64 0) rfl rfl (by kernel_rfl) (by kernel_rfl) ?_
  refine Wk.rPure 1 (some 3) (.int .i64 0) rfl rfl (by kernel_rfl) (by kernel_rfl) ?_
  refine Wk.rEnd 2 rfl ?_
  refine Wk.nxt ?_
  refine Wk.reg ?_
  refine Wk.rPure 0 (some 7) (.int .i64 0) rfl rfl (by kernel_rfl) (by kernel_rfl) ?_
  refine Wk.rPure 1 (some 8) (.int .i64 n) rfl rfl (by kernel_rfl) (by kernel_rfl) ?_
  refine Wk.rPure 2 (some 9) (.int .u64 ((Mur.u64n n : Nat) : Int)) rfl rfl (by kernel_rfl) (Mur.conv_u64n 3 26 (.tmp 8) rfl (by kernel_rfl) Tryd.underlying26 .i64 n (by kernel_rfl)) ?_
  refine Wk.rPure 3 (some 10) (.int .i64 0) rfl rfl (by kernel_rfl) (by kernel_rfl) ?_
  refine Wk.rPure 4 (some 11) (.int .i64 0) rfl rfl (by kernel_rfl) (Wk.int64 (n := 8 * 0) (z := 0) (by omega) (by omega) (by omega) (by kernel_rfl)) ?_
  refine Wk.rPure 5 (some 12) (.int .i64 56) rfl rfl (by kernel_rfl) (Wk.int64 (n := 56 - 0) (z := 56) (by omega) (by omega) (by omega) (by kernel_rfl)) ?_
  refine Wk.rPure 6 (some 13) (.int .u64 (((Mur.u64n n) / 72057594037927936 : Nat) : Int)) rfl rfl (by kernel_rfl) (Mur.shr64 26 3 (.tmp 9) (.tmp 12) rfl (Mur.u64n n) 56 .i64 (by kernel_rfl) (by kernel_rfl) (by omega) 72057594037927936 rfl) ?_
  refine Wk.rPure 7 (some 14) (.int .u8 (((Mur.u64n n) / 72057594037927936 % 256 : Nat) : Int)) rfl rfl (by kernel_rfl) (Mur.conv_u8 26 5 (.tmp 13) rfl (by kernel_rfl) Tryd.underlying5 .u64 ((Mur.u64n n) / 72057594037927936) (by kernel_rfl)) ?_
  refine Wk.rPure 8 (some 15) (.pointer (some ⟨w.heap.size, 0, none⟩)) rfl rfl (by kernel_rfl) (Wk.index_arr 127 5 (.tmp 2) (.tmp 7) rfl 8 Tryd.underlying127 1 (by kernel_rfl) w.heap.size 0 0 .i64 (by kernel_rfl) (by kernel_rfl) (by decide)) ?_
  refine Wk.rExS 9 none _ rfl rfl (by kernel_rfl) (Wk.store1 5 (.tmp 15) (.tmp 14) rfl (by kernel_rfl) w.heap.size 0 (by kernel_rfl) (.int .u8 (((Mur.u64n n) / 72057594037927936 % 256 : Nat) : Int)) (by kernel_rfl) rfl 127 #[.int .u8 0, .int .u8 0, .int .u8 0, .int .u8 0, .int .u8 0, .int .u8 0, .int .u8 0, .int .u8 0] hb1 (by simp)) ?_
  rintro W2 ⟨hb2, ch2⟩
  replace hb2 : W2.heap[w.heap.size]? = some (.cells #[.int .u8 (((Mur.u64n n) / 72057594037927936 % 256 : Nat) : Int), .int .u8 0, .int .u8 0, .int .u8 0, .int .u8 0, .int .u8 0, .int .u8 0, .int .u8 0] 127 (0, 0)) := hb2
  have zz2 := ch2.size
  refine Wk.rEnd 10 rfl ?_
  refine Wk.inN ?_
  refine Wk.nxt ?_
  refine Wk.reg ?_
  refine Wk.rPure 0 (some 16) (.int .i64 1) rfl rfl (by kernel_rfl) (Wk.int64 (n := 0 + 1) (z := 1) (by omega) (by omega) (by omega) (by kernel_rfl)) ?_
  refine Wk.rPure 1 (some 4) (.int .i64 1) rfl rfl (by kernel_rfl) (by kernel_rfl) ?_
  refine Wk.rEnd 2 rfl ?_
  refine Wk.nxt ?_
  refine Wk.rdS ?_
  refine wp_seq ?_
  refine Wk.reg ?_
  refine Wk.rPure 0 (some 5) (.bool true) rfl rfl (by kernel_rfl) (Wk.boolT (b := decide ((1 : Int) < (8 : Int))) (decide_eq_true (by decide)) (by kernel_rfl)) ?_
  refine Wk.rEnd 1 rfl ?_
  refine Wk.nxt ?_
  refine wp_seq ?_
  refine wp_cond_true (by kernel_rfl) ?_
  refine wp_skip ?_
  refine Wk.nxt ?_
  refine wp_seq ?_
  refine wp_block ?_
  refine wp_seq ?_
  refine Wk.reg ?_
  refine Wk.rPure 0 (some 6) (.int .i64 1) rfl rfl (by kernel_rfl) (by kernel_rfl) ?_
  refine Wk.rPure 1 (some 3) (.int .i64 1) rfl rfl (by kernel_rfl) (by kernel_rfl) ?_
  refine Wk.rEnd 2 rfl ?_
  refine Wk.nxt ?_
  refine Wk.reg ?_
  refine Wk.rPure 0 (some 7) (.int .i64 1) rfl rfl (by kernel_rfl) (by kernel_rfl) ?_
  refine Wk.rPure 1 (some 8) (.int .i64 n) rfl rfl (by kernel_rfl) (by kernel_rfl) ?_
  refine Wk.rPure 2 (some 9) (.int .u64 ((Mur.u64n n : Nat) : Int)) rfl rfl (by kernel_rfl) (Mur.conv_u64n 3 26 (.tmp 8) rfl (by kernel_rfl) Tryd.underlying26 .i64 n (by kernel_rfl)) ?_
  refine Wk.rPure 3 (some 10) (.int .i64 1) rfl rfl (by kernel_rfl) (by kernel_rfl) ?_
  refine Wk.rPure 4 (some 11) (.int .i64 8) rfl rfl (by kernel_rfl) (Wk.int64 (n := 8 * 1) (z := 8) (by omega) (by omega) (by omega) (by kernel_rfl)) ?_
  refine Wk.rPure 5 (some 12) (.int .i64 48) rfl rfl (by kernel_rfl) (Wk.int64 (n := 56 - 8) (z := 48) (by omega) (by omega) (by omega) (by kernel_rfl)) ?_
  refine Wk.rPure 6 (some 13) (.int .u64 (((Mur.u64n n) / 281474976710656 : Nat) : Int)) rfl rfl (by kernel_rfl) (Mur.shr64 26 3 (.tmp 9) (.tmp 12) rfl (Mur.u64n n) 48 .i64 (by kernel_rfl) (by kernel_rfl) (by omega) 281474976710656 rfl) ?_
  refine Wk.rPure 7 (some 14) (.int .u8 (((Mur.u64n n) / 281474976710656 % 256 : Nat) : Int)) rfl rfl (by kernel_rfl) (Mur.conv_u8 26 5 (.tmp 13) rfl (by kernel_rfl) Tryd.underlying5 .u64 ((Mur.u64n n) / 281474976710656) (by kernel_rfl)) ?_
  refine Wk.rPure 8 (some 15) (.pointer (some ⟨w.heap.size, 1, none⟩)) rfl rfl (by kernel_rfl) (Wk.index_arr 127 5 (.tmp 2) (.tmp 7) rfl 8 Tryd.underlying127 1 (by kernel_rfl) w.heap.size 0 1 .i64 (by kernel_rfl) (by kernel_rfl) (by decide)) ?_
  refine Wk.rExS 9 none _ rfl rfl (by kernel_rfl) (Wk.store1 5 (.tmp 15) (.tmp 14) rfl (by kernel_rfl) w.heap.size 1 (by kernel_rfl) (.int .u8 (((Mur.u64n n) / 281474976710656 % 256 : Nat) : Int)) (by kernel_rfl) rfl 127 #[.int .u8 (((Mur.u64n n) / 72057594037927936 % 256 : Nat) : Int), .int .u8 0, .int .u8 0, .int .u8 0, .int .u8 0, .int .u8 0, .int .u8 0, .int .u8 0] hb2 (by simp)) ?_
  rintro W3 ⟨hb3, ch3⟩
  replace hb3 : W3.heap[w.heap.size]? = some (.cells #[.int .u8 (((Mur.u64n n) / 72057594037927936 % 256 : Nat) : Int), .int .u8 (((Mur.u64n n) / 281474976710656 % 256 : Nat) : Int), .int .u8 0, .int .u8 0, .int .u8 0, .int .u8 0, .int .u8 0, .int .u8 0] 127 (0, 0)) := hb3
  have zz3 := ch3.size
  refine Wk.rEnd 10 rfl ?_
  refine Wk.inN ?_
  refine Wk.nxt ?_
  refine Wk.reg ?_
  refine Wk.rPure 0 (some 16) (.int .i64 2) rfl rfl (by kernel_rfl) (Wk.int64 (n := 1 + 1) (z := 2) (by omega) (by omega) (by omega) (by kernel_rfl)) ?_
  refine Wk.rPure 1 (some 4) (.int .i64 2) rfl rfl (by kernel_rfl) (by kernel_rfl) ?_
  refine Wk.rEnd 2 rfl ?_
  refine Wk.nxt ?_
  refine Wk.rdS ?_
  refine wp_seq ?_
  refine Wk.reg ?_
  refine Wk.rPure 0 (some 5) (.bool true) rfl rfl (by kernel_rfl) (Wk.boolT (b := decide ((2 : Int) < (8 : Int))) (decide_eq_true (by decide)) (by kernel_rfl)) ?_
  refine Wk.rEnd 1 rfl ?_
  refine Wk.nxt ?_
  refine wp_seq ?_
  refine wp_cond_true (by kernel_rfl) ?_
  refine wp_skip ?_
  refine Wk.nxt ?_
  refine wp_seq ?_
  refine wp_block ?_
  refine wp_seq ?_
  refine Wk.reg ?_
  refine Wk.rPure 0 (some 6) (.int .i64 2) rfl rfl (by kernel_rfl) (by kernel_rfl) ?_
  refine Wk.rPure 1 (some 3) (.int .i64 2) rfl rfl (by kernel_rfl) (by kernel_rfl) ?_
  refine Wk.rEnd 2 rfl ?_
  refine Wk.nxt ?_
  refine Wk.reg ?_
  refine Wk.rPure 0 (some 7) (.int .i64 2) rfl rfl (by kernel_rfl) (by kernel_rfl) ?_
  refine Wk.rPure 1 (some 8) (.int .i64 n) rfl rfl (by kernel_rfl) (by kernel_rfl) ?_
  refine Wk.rPure 2 (some 9) (.int .u64 ((Mur.u64n n : Nat) : Int)) rfl rfl (by kernel_rfl) (Mur.conv_u64n 3 26 (.tmp 8) rfl (by kernel_rfl) Tryd.underlying26 .i64 n (by kernel_rfl)) ?_
  refine Wk.rPure 3 (some 10) (.int .i64 2) rfl rfl (by kernel_rfl) (by kernel_rfl) ?_
  refine Wk.rPure 4 (some 11) (.int .i64 16) rfl rfl (by kernel_rfl) (Wk.int64 (n := 8 * 2) (z := 16) (by omega) (by omega) (by omega) (by kernel_rfl)) ?_
  refine Wk.rPure 5 (some 12) (.int .i64 40) rfl rfl (by kernel_rfl) (Wk.int64 (n := 56 - 16) (z := 40) (by omega) (by omega) (by omega) (by kernel_rfl)) ?_
  refine Wk.rPure 6 (some 13) (.int .u64 (((Mur.u64n n) / 1099511627776 : Nat) : Int)) rfl rfl (by kernel_rfl) (Mur.shr64 26 3 (.tmp 9) (.tmp 12) rfl (Mur.u64n n) 40 .i64 (by kernel_rfl) (by kernel_rfl) (by omega) 1099511627776 rfl) ?_
  refine Wk.rPure 7 (some 14) (.int .u8 (((Mur.u64n n) / 1099511627776 % 256 : Nat) : Int)) rfl rfl (by kernel_rfl) (Mur.conv_u8 26 5 (.tmp 13) rfl (by kernel_rfl) Tryd.underlying5 .u64 ((Mur.u64n n) / 1099511627776) (by kernel_rfl)) ?_
  refine Wk.rPure 8 (some 15) (.pointer (some ⟨w.heap.size, 2, none⟩)) rfl rfl (by kernel_rfl) (Wk.index_arr 127 5 (.tmp 2) (.tmp 7) rfl 8 Tryd.underlying127 1 (by kernel_rfl) w.heap.size 0 2 .i64 (by kernel_rfl) (by kernel_rfl) (by decide)) ?_
  refine Wk.rExS 9 none _ rfl rfl (by kernel_rfl) (Wk.store1 5 (.tmp 15) (.tmp 14) rfl (by kernel_rfl) w.heap.size 2 (by kernel_rfl) (.int .u8 (((Mur.u64n n) / 1099511627776 % 256 : Nat) : Int)) (by kernel_rfl) rfl 127 #[.int .u8 (((Mur.u64n n) / 72057594037927936 % 256 : Nat) : Int), .int .u8 (((Mur.u64n n) / 281474976710656 % 256 : Nat) : Int), .int .u8 0, .int .u8 0, .int .u8 0, .int .u8 0, .int .u8 0, .int .u8 0] hb3 (by simp)) ?_
  rintro W4 ⟨hb4, ch4⟩
  replace hb4 : W4.heap[w.heap.size]? = some (.cells #[.int .u8 (((Mur.u64n n) / 72057594037927936 % 256 : Nat) : Int), .int .u8 (((Mur.u64n n) / 281474976710656 % 256 : Nat) : Int), .int .u8 (((Mur.u64n n) / 1099511627776 % 256 : Nat) : Int), .int .u8 0, .int .u8 0, .int .u8 0, .int .u8 0, .int .u8 0] 127 (0, 0)) := hb4
  have zz4 := ch4.size
  refine Wk.rEnd 10 rfl ?_
  refine Wk.inN ?_
  refine Wk.nxt ?_
  refine Wk.reg ?_
  refine Wk.rPure 0 (some 16) (.int .i64 3) rfl rfl (by kernel_rfl) (Wk.int64 (n := 2 + 1) (z := 3) (by omega) (by omega) (by omega) (by kernel_rfl)) ?_
  refine Wk.rPure 1 (some 4) (.int .i64 3) rfl rfl (by kernel_rfl) (by kernel_rfl) ?_
  refine Wk.rEnd 2 rfl ?_
  refine Wk.nxt ?_
  refine Wk.rdS ?_
  refine wp_seq ?_
  refine Wk.reg ?_
  refine Wk.rPure 0 (some 5) (.bool true) rfl rfl (by kernel_rfl) (Wk.boolT (b := decide ((3 : Int) < (8 : Int))) (decide_eq_true (by decide)) (by kernel_rfl)) ?_
  refine Wk.rEnd 1 rfl ?_
  refine Wk.nxt ?_
  refine wp_seq ?_
  refine wp_cond_true (by kernel_rfl) ?_
  refine wp_skip ?_
  refine Wk.nxt ?_
  refine wp_seq ?_
  refine wp_block ?_
  refine wp_seq ?_
  refine Wk.reg ?_
  refine Wk.rPure 0 (some 6) (.int .i64 3) rfl rfl (by kernel_rfl) (by kernel_rfl) ?_
  refine Wk.rPure 1 (some 3) (.int .i64 3) rfl rfl (by kernel_rfl) (by kernel_rfl) ?_
  refine Wk.rEnd 2 rfl ?_
  refine Wk.nxt ?_
  refine Wk.reg ?_
  refine Wk.rPure 0 (some 7) (.int .i64 3) rfl rfl (by kernel_rfl) (by kernel_rfl) ?_
  refine Wk.rPure 1 (some 8) (.int .i64 n) rfl rfl (by kernel_rfl) (by kernel_rfl) ?_
  refine Wk.rPure 2 (some 9) (.int .u64 ((Mur.u64n n : Nat) : Int)) rfl rfl (by kernel_rfl) (Mur.conv_u64n 3 26 (.tmp 8) rfl (by kernel_rfl) Tryd.underlying26 .i64 n (by kernel_rfl)) ?_
  refine Wk.rPure 3 (some 10) (.int .i64 3) rfl rfl (by kernel_rfl) (by kernel_rfl) ?_
  refine Wk.rPure 4 (some 11) (.int .i64 24) rfl rfl (by kernel_rfl) (Wk.int64 (n := 8 * 3) (z := 24) (by omega) (by omega) (by omega) (by kernel_rfl)) ?_
  refine Wk.rPure 5 (some 12) (.int .i64 32) rfl rfl (by kernel_rfl) (Wk.int64 (n := 56 - 24) (z := 32) (by omega) (by omega) (by omega) (by kernel_rfl)) ?_
  refine Wk.rPure 6 (some 13) (.int .u64 (((Mur.u64n n) / 4294967296 : Nat) : Int)) rfl rfl (by kernel_rfl) (Mur.shr64 26 3 (.tmp 9) (.tmp 12) rfl (Mur.u64n n) 32 .i64 (by kernel_rfl) (by kernel_rfl) (by omega) 4294967296 rfl) ?_
  refine Wk.rPure 7 (some 14) (.int .u8 (((Mur.u64n n) / 4294967296 % 256 : Nat) : Int)) rfl rfl (by kernel_rfl) (Mur.conv_u8 26 5 (.tmp 13) rfl (by kernel_rfl) Tryd.underlying5 .u64 ((Mur.u64n n) / 4294967296) (by kernel_rfl)) ?_
  refine Wk.rPure 8 (some 15) (.pointer (some ⟨w.heap.size, 3, none⟩)) rfl rfl (by kernel_rfl) (Wk.index_arr 127 5 (.tmp 2) (.tmp 7) rfl 8 Tryd.underlying127 1 (by kernel_rfl) w.heap.size 0 3 .i64 (by kernel_rfl) (by kernel_rfl) (by decide)) ?_
  refine Wk.rExS 9 none _ rfl rfl (by kernel_rfl) (Wk.store1 5 (.tmp 15) (.tmp 14) rfl (by kernel_rfl) w.heap.size 3 (by kernel_rfl) (.int .u8 (((Mur.u64n n) / 4294967296 % 256 : Nat) : Int)) (by kernel_rfl) rfl 127 #[.int .u8 (((Mur.u64n n) / 72057594037927936 % 256 : Nat) : Int), .int .u8 (((Mur.u64n n) / 281474976710656 % 256 : Nat) : Int), .int .u8 (((Mur.u64n n) / 1099511627776 % 256 : Nat) : Int), .int .u8 0, .int .u8 0, .int .u8 0, .int .u8 0, .int .u8 0] hb4 (by simp)) ?_
  rintro W5 ⟨hb5, ch5⟩
  replace hb5 : W5.heap[w.heap.size]? = some (.cells #[.int .u8 (((Mur.u64n n) / 72057594037927936 % 256 : Nat) : Int), .int .u8 (((Mur.u64n n) / 281474976710656 % 256 : Nat) : Int), .int .u8 (((Mur.u64n n) / 1099511627776 % 256 : Nat) : Int), .int .u8 (((Mur.u64n n) / 4294967296 % 256 : Nat) : Int), .int .u8 0, .int .u8 0, .int .u8 0, .int .u8 0] 127 (0, 0)) := hb5
  have zz5 := ch5.size
  refine Wk.rEnd 10 rfl ?_
  refine Wk.inN ?_
  refine Wk.nxt ?_
  refine Wk.reg ?_
  refine Wk.rPure 0 (some 16) (.int .i64 4) rfl rfl (by kernel_rfl) (Wk.int64 (n := 3 + 1) (z := 4) (by omega) (by omega) (by omega) (by kernel_rfl)) ?_
  refine Wk.rPure 1 (some 4) (.int .i64 4) rfl rfl (by kernel_rfl) (by kernel_rfl) ?_
  refine Wk.rEnd 2 rfl ?_
  refine Wk.nxt ?_
  refine Wk.rdS ?_
  refine wp_seq ?_
  refine Wk.reg ?_
  refine Wk.rPure 0 (some 5) (.bool true) rfl rfl (by kernel_rfl) (Wk.boolT (b := decide ((4 : Int) < (8 : Int))) (decide_eq_true (by decide)) (by kernel_rfl)) ?_
  refine Wk.rEnd 1 rfl ?_
  refine Wk.nxt ?_
  refine wp_seq ?_
  refine wp_cond_true (by kernel_rfl) ?_
  refine wp_skip ?_
  refine Wk.nxt ?_
  refine wp_seq ?_
  refine wp_block ?_
  refine wp_seq ?_
  refine Wk.reg ?_
  refine Wk.rPure 0 (some 6) (.int .i64 4) rfl rfl (by kernel_rfl) (by kernel_rfl) ?_
  refine Wk.rPure 1 (some 3) (.int .i64 4) rfl rfl (by kernel_rfl) (by kernel_rfl) ?_
  refine Wk.rEnd 2 rfl ?_
  refine Wk.nxt ?_
  refine Wk.reg ?_
  refine Wk.rPure 0 (some 7) (.int .i64 4) rfl rfl (by kernel_rfl) (by kernel_rfl) ?_
  refine Wk.rPure 1 (some 8) (.int .i64 n) rfl rfl (by kernel_rfl) (by kernel_rfl) ?_
  refine Wk.rPure 2 (some 9) (.int .u64 ((Mur.u64n n : Nat) : Int)) rfl rfl (by kernel_rfl) (Mur.conv_u64n 3 26 (.tmp 8) rfl (by kernel_rfl) Tryd.underlying26 .i64 n (by kernel_rfl)) ?_
  refine Wk.rPure 3 (some 10) (.int .i64 4) rfl rfl (by kernel_rfl) (by kernel_rfl) ?_
  refine Wk.rPure 4 (some 11) (.int .i64 32) rfl rfl (by kernel_rfl) (Wk.int64 (n := 8 * 4) (z := 32) (by omega) (by omega) (by omega) (by kernel_rfl)) ?_
  refine Wk.rPure 5 (some 12) (.int .i64 24) rfl rfl (by kernel_rfl) (Wk.int64 (n := 56 - 32) (z := 24) (by omega) (by omega) (by omega) (by kernel_rfl)) ?_
  refine Wk.rPure 6 (some 13) (.int .u64 (((Mur.u64n n) / 16777216 : Nat) : Int)) rfl rfl (by kernel_rfl) (Mur.shr64 26 3 (.tmp 9) (.tmp 12) rfl (Mur.u64n n) 24 .i64 (by kernel_rfl) (by kernel_rfl) (by omega) 16777216 rfl) ?_
  refine Wk.rPure 7 (some 14) (.int .u8 (((Mur.u64n n) / 16777216 % 256 : Nat) : Int)) rfl rfl (by kernel_rfl) (Mur.conv_u8 26 5 (.tmp 13) rfl (by kernel_rfl) Tryd.underlying5 .u64 ((Mur.u64n n) / 16777216) (by kernel_rfl)) ?_
  refine Wk.rPure 8 (some 15) (.pointer (some ⟨w.heap.size, 4, none⟩)) rfl rfl (by kernel_rfl) (Wk.index_arr 127 5 (.tmp 2) (.tmp 7) rfl 8 Tryd.underlying127 1 (by kernel_rfl) w.heap.size 0 4 .i64 (by kernel_rfl) (by kernel_rfl) (by decide)) ?_
  refine Wk.rExS 9 none _ rfl rfl (by kernel_rfl) (Wk.store1 5 (.tmp 15) (.tmp 14) rfl (by kernel_rfl) w.heap.size 4 (by kernel_rfl) (.int .u8 (((Mur.u64n n) / 16777216 % 256 : Nat) : Int)) (by kernel_rfl) rfl 127 #[.int .u8 (((Mur.u64n n) / 72057594037927936 % 256 : Nat) : Int), .int .u8 (((Mur.u64n n) / 281474976710656 % 256 : Nat) : Int), .int .u8 (((Mur.u64n n) / 1099511627776 % 256 : Nat) : Int), .int .u8 (((Mur.u64n n) / 4294967296 % 256 : Nat) : Int), .int .u8 0, .int .u8 0, .int .u8 0, .int .u8 0] hb5 (by simp)) ?_
  rintro W6 ⟨hb6, ch6⟩
  replace hb6 : W6.heap[w.heap.size]? = some (.cells #[.int .u8 (((Mur.u64n n) / 72057594037927936 % 256 : Nat) : Int), .int .u8 (((Mur.u64n n) / 281474976710656 % 256 : Nat) : Int), .int .u8 (((Mur.u64n n) / 1099511627776 % 256 : Nat) : Int), .int .u8 (((Mur.u64n n) / 4294967296 % 256 : Nat) : Int), .int .u8 (((Mur.u64n n) / 16777216 % 256 : Nat) : Int), .int .u8 0, .int .u8 0, .int .u8 0] 127 (0, 0)) := hb6
  have zz6 := ch6.size
  refine Wk.rEnd 10 rfl ?_
  refine Wk.inN ?_
  refine Wk.nxt ?_
  refine Wk.reg ?_
  refine Wk.rPure 0 (some 16) (.int .i64 5) rfl rfl (by kernel_rfl) (Wk.int64 (n := 4 + 1) (z := 5) (by omega) (by omega) (by omega) (by kernel_rfl)) ?_
  refine Wk.rPure 1 (some 4) (.int .i64 5) rfl rfl (by kernel_rfl) (by kernel_rfl) ?_
  refine Wk.rEnd 2 rfl ?_
  refine Wk.nxt ?_
  refine Wk.rdS ?_
  refine wp_seq ?_
  refine Wk.reg ?_
  refine Wk.rPure 0 (some 5) (.bool true) rfl rfl (by kernel_rfl) (Wk.boolT (b := decide ((5 : Int) < (8 : Int))) (decide_eq_true (by decide)) (by kernel_rfl)) ?_
  refine Wk.rEnd 1 rfl ?_
  refine Wk.nxt ?_
  refine wp_seq ?_
  refine wp_cond_true (by kernel_rfl) ?_
  refine wp_skip ?_
  refine Wk.nxt ?_
  refine wp_seq ?_
  refine wp_block ?_
  refine wp_seq ?_
  refine Wk.reg ?_
  refine Wk.rPure 0 (some 6) (.int .i64 5) rfl rfl (by kernel_rfl) (by kernel_rfl) ?_
  refine Wk.rPure 1 (some 3) (.int .i64 5) rfl rfl (by kernel_rfl) (by kernel_rfl) ?_
  refine Wk.rEnd 2 rfl ?_
  refine Wk.nxt ?_
  refine Wk.reg ?_
  refine Wk.rPure 0 (some 7) (.int .i64 5) rfl rfl (by kernel_rfl) (by kernel_rfl) ?_
  refine Wk.rPure 1 (some 8) (.int .i64 n) rfl rfl (by kernel_rfl) (by kernel_rfl) ?_
  refine Wk.rPure 2 (some 9) (.int .u64 ((Mur.u64n n : Nat) : Int)) rfl rfl (by kernel_rfl) (Mur.conv_u64n 3 26 (.tmp 8) rfl (by kernel_rfl) Tryd.underlying26 .i64 n (by kernel_rfl)) ?_
  refine Wk.rPure 3 (some 10) (.int .i64 5) rfl rfl (by kernel_rfl) (by kernel_rfl) ?_
  refine Wk.rPure 4 (some 11) (.int .i64 40) rfl rfl (by kernel_rfl) (Wk.int64 (n := 8 * 5) (z := 40) (by omega) (by omega) (by omega) (by kernel_rfl)) ?_
  refine Wk.rPure 5 (some 12) (.int .i64 16) rfl rfl (by kernel_rfl) (Wk.int64 (n := 56 - 40) (z := 16) (by omega) (by omega) (by omega) (by kernel_rfl)) ?_
  refine Wk.rPure 6 (some 13) (.int .u64 (((Mur.u64n n) / 65536 : Nat) : Int)) rfl rfl (by kernel_rfl) (Mur.shr64 26 3 (.tmp 9) (.tmp 12) rfl (Mur.u64n n) 16 .i64 (by kernel_rfl) (by kernel_rfl) (by omega) 65536 rfl) ?_
  refine Wk.rPure 7 (some 14) (.int .u8 (((Mur.u64n n) / 65536 % 256 : Nat) : Int)) rfl rfl (by kernel_rfl) (Mur.conv_u8 26 5 (.tmp 13) rfl (by kernel_rfl) Tryd.underlying5 .u64 ((Mur.u64n n) / 65536) (by kernel_rfl)) ?_
  refine Wk.rPure 8 (some 15) (.pointer (some ⟨w.heap.size, 5, none⟩)) rfl rfl (by kernel_rfl) (Wk.index_arr 127 5 (.tmp 2) (.tmp 7) rfl 8 Tryd.underlying127 1 (by kernel_rfl) w.heap.size 0 5 .i64 (by kernel_rfl) (by kernel_rfl) (by decide)) ?_
  refine Wk.rExS 9 none _ rfl rfl (by kernel_rfl) (Wk.store1 5 (.tmp 15) (.tmp 14) rfl (by kernel_rfl) w.heap.size 5 (by kernel_rfl) (.int .u8 (((Mur.u64n n) / 65536 % 256 : Nat) : Int)) (by kernel_rfl) rfl 127 #[.int .u8 (((Mur.u64n n) / 72057594037927936 % 256 : Nat) : Int), .int .u8 (((Mur.u64n n) / 281474976710656 % 256 : Nat) : Int), .int .u8 (((Mur.u64n n) / 1099511627776 % 256 : Nat) : Int), .int .u8 (((Mur.u64n n) / 4294967296 % 256 : Nat) : Int), .int .u8 (((Mur.u64n n) / 16777216 % 256 : Nat) : Int), .int .u8 0, .int .u8 0, .int .u8 0] hb6 (by simp)) ?_
  rintro W7 ⟨hb7, ch7⟩
  replace hb7 : W7.heap[w.heap.size]? = some (.cells #[.int .u8 (((Mur.u64n n) / 72057594037927936 % 256 : Nat) : Int), .int .u8 (((Mur.u64n n) / 281474976710656 % 256 : Nat) : Int), .int .u8 (((Mur.u64n n) / 1099511627776 % 256 : Nat) : Int), .int .u8 (((Mur.u64n n) / 4294967296 % 256 : Nat) : Int), .int .u8 (((Mur.u64n n) / 16777216 % 256 : Nat) : Int), .int .u8 (((Mur.u64n n) / 65536 % 256 : Nat) : Int), .int .u8 0, .int .u8 0] 127 (0, 0)) := hb7
  have zz7 := ch7.size
  refine Wk.rEnd 10 rfl ?_
  refine Wk.inN ?_
  refine Wk.nxt ?_
  refine Wk.reg ?_
  refine Wk.rPure 0 (some 16) (.int .i64 6) rfl rfl (by kernel_rfl) (Wk.int64 (n := 5 + 1) (z := 6) (by omega) (by omega) (by omega) (by kernel_rfl)) ?_
  refine Wk.rPure 1 (some 4) (.int .i64 6) rfl rfl (by kernel_rfl) (by kernel_rfl) ?_
  refine Wk.rEnd 2 rfl ?_
  refine Wk.nxt ?_
  refine Wk.rdS ?_
  refine wp_seq ?_
  refine Wk.reg ?_
  refine Wk.rPure 0 (some 5) (.bool true) rfl rfl (by kernel_rfl) (Wk.boolT (b := decide ((6 : Int) < (8 : Int))) (decide_eq_true (by decide)) (by kernel_rfl)) ?_
  refine Wk.rEnd 1 rfl ?_
  refine Wk.nxt ?_
  refine wp_seq ?_
  refine wp_cond_true (by kernel_rfl) ?_
  refine wp_skip ?_
  refine Wk.nxt ?_
  refine wp_seq ?_
  refine wp_block ?_
  refine wp_seq ?_
  refine Wk.reg ?_
  refine Wk.rPure 0 (some 6) (.int .i64 6) rfl rfl (by kernel_rfl) (by kernel_rfl) ?_
  refine Wk.rPure 1 (some 3) (.int .i64 6) rfl rfl (by kernel_rfl) (by kernel_rfl) ?_
  refine Wk.rEnd 2 rfl ?_
  refine Wk.nxt ?_
  refine Wk.reg ?_
  refine Wk.rPure 0 (some 7) (.int .i64 6) rfl rfl (by kernel_rfl) (by kernel_rfl) ?_
  refine Wk.rPure 1 (some 8) (.int .i64 n) rfl rfl (by kernel_rfl) (by kernel_rfl) ?_
  refine Wk.rPure 2 (some 9) (.int .u64 ((Mur.u64n n : Nat) : Int)) rfl rfl (by kernel_rfl) (Mur.conv_u64n 3 26 (.tmp 8) rfl (by kernel_rfl) Tryd.underlying26 .i64 n (by kernel_rfl)) ?_
  refine Wk.rPure 3 (some 10) (.int .i64 6) rfl rfl (by kernel_rfl) (by kernel_rfl) ?_
  refine Wk.rPure 4 (some 11) (.int .i64 48) rfl rfl (by kernel_rfl) (Wk.int64 (n := 8 * 6) (z := 48) (by omega) (by omega) (by omega) (by kernel_rfl)) ?_
  refine Wk.rPure 5 (some 12) (.int .i64 8) rfl rfl (by kernel_rfl) (Wk.int64 (n := 56 - 48) (z := 8) (by omega) (by omega) (by omega) (by kernel_rfl)) ?_
  refine Wk.rPure 6 (some 13) (.int .u64 (((Mur.u64n n) / 256 : Nat) : Int)) rfl rfl (by kernel_rfl) (Mur.shr64 26 3 (.tmp 9) (.tmp 12) rfl (Mur.u64n n) 8 .i64 (by kernel_rfl) (by kernel_rfl) (by omega) 256 rfl) ?_
  refine Wk.rPure 7 (some 14) (.int .u8 (((Mur.u64n n) / 256 % 256 : Nat) : Int)) rfl rfl (by kernel_rfl) (Mur.conv_u8 26 5 (.tmp 13) rfl (by kernel_rfl) Tryd.underlying5 .u64 ((Mur.u64n n) / 256) (by kernel_rfl)) ?_
  refine Wk.rPure 8 (some 15) (.pointer (some ⟨w.heap.size, 6, none⟩)) rfl rfl (by kernel_rfl) (Wk.index_arr 127 5 (.tmp 2) (.tmp 7) rfl 8 Tryd.underlying127 1 (by kernel_rfl) w.heap.size 0 6 .i64 (by kernel_rfl) (by kernel_rfl) (by decide)) ?_
  refine Wk.rExS 9 none _ rfl rfl (by kernel_rfl) (Wk.store1 5 (.tmp 15) (.tmp 14) rfl (by kernel_rfl) w.heap.size 6 (by kernel_rfl) (.int .u8 (((Mur.u64n n) / 256 % 256 : Nat) : Int)) (by kernel_rfl) rfl 127 #[.int .u8 (((Mur.u64n n) / 72057594037927936 % 256 : Nat) : Int), .int .u8 (((Mur.u64n n) / 281474976710656 % 256 : Nat) : Int), .int .u8 (((Mur.u64n n) / 1099511627776 % 256 : Nat) : Int), .int .u8 (((Mur.u64n n) / 4294967296 % 256 : Nat) : Int), .int .u8 (((Mur.u64n n) / 16777216 % 256 : Nat) : Int), .int .u8 (((Mur.u64n n) / 65536 % 256 : Nat) : Int), .int .u8 0, .int .u8 0] hb7 (by simp)) ?_
  rintro W8 ⟨hb8, ch8⟩
  replace hb8 : W8.heap[w.heap.size]? = some (.cells #[.int .u8 (((Mur.u64n n) / 72057594037927936 % 256 : Nat) : Int), .int .u8 (((Mur.u64n n) / 281474976710656 % 256 : Nat) : Int), .int .u8 (((Mur.u64n n) / 1099511627776 % 256 : Nat) : Int), .int .u8 (((Mur.u64n n) / 4294967296 % 256 : Nat) : Int), .int .u8 (((Mur.u64n n) / 16777216 % 256 : Nat) : Int), .int .u8 (((Mur.u64n n) / 65536 % 256 : Nat) : Int), .int .u8 (((Mur.u64n n) / 256 % 256 : Nat) : Int), .int .u8 0] 127 (0, 0)) := hb8
  have zz8 := ch8.size
  refine Wk.rEnd 10 rfl ?_
  refine Wk.inN ?_
  refine Wk.nxt ?_
  refine Wk.reg ?_
  refine Wk.rPure 0 (some 16) (.int .i64 7) rfl rfl (by kernel_rfl) (Wk.int64 (n := 6 + 1) (z := 7) (by omega) (by omega) (by omega) (by kernel_rfl)) ?_
  refine Wk.rPure 1 (some 4) (.int .i64 7) rfl rfl (by kernel_rfl) (by kernel_rfl) ?_
  refine Wk.rEnd 2 rfl ?_
  refine Wk.nxt ?_
  refine Wk.rdS ?_
  refine wp_seq ?_
  refine Wk.reg ?_
  refine Wk.rPure 0 (some 5) (.bool true) rfl rfl (by kernel_rfl) (Wk.boolT (b := decide ((7 : Int) < (8 : Int))) (decide_eq_true (by decide)) (by kernel_rfl)) ?_
  refine Wk.rEnd 1 rfl ?_
  refine Wk.nxt ?_
  refine wp_seq ?_
  refine wp_cond_true (by kernel_rfl) ?_
  refine wp_skip ?_
  refine Wk.nxt ?_
  refine wp_seq ?_
  refine wp_block ?_
  refine wp_seq ?_
  refine Wk.reg ?_
  refine Wk.rPure 0 (some 6) (.int .i64 7) rfl rfl (by kernel_rfl) (by kernel_rfl) ?_
  refine Wk.rPure 1 (some 3) (.int .i64 7) rfl rfl (by kernel_rfl) (by kernel_rfl) ?_
  refine Wk.rEnd 2 rfl ?_
  refine Wk.nxt ?_
  refine Wk.reg ?_
  refine Wk.rPure 0 (some 7) (.int .i64 7) rfl rfl (by kernel_rfl) (by kernel_rfl) ?_
  refine Wk.rPure 1 (some 8) (.int .i64 n) rfl rfl (by kernel_rfl) (by kernel_rfl) ?_
  refine Wk.rPure 2 (some 9) (.int .u64 ((Mur.u64n n : Nat) : Int)) rfl rfl (by kernel_rfl) (Mur.conv_u64n 3 26 (.tmp 8) rfl (by kernel_rfl) Tryd.underlying26 .i64 n (by kernel_rfl)) ?_
  refine Wk.rPure 3 (some 10) (.int .i64 7) rfl rfl (by kernel_rfl) (by kernel_rfl) ?_
  refine Wk.rPure 4 (some 11) (.int .i64 56) rfl rfl (by kernel_rfl) (Wk.int64 (n := 8 * 7) (z := 56) (by omega) (by omega) (by omega) (by kernel_rfl)) ?_
  refine Wk.rPure 5 (some 12) (.int .i64 0) rfl rfl (by kernel_rfl) (Wk.int64 (n := 56 - 56) (z := 0) (by omega) (by omega) (by omega) (by kernel_rfl)) ?_
  refine Wk.rPure 6 (some 13) (.int .u64 (((Mur.u64n n) / 1 : Nat) : Int)) rfl rfl (by kernel_rfl) (Mur.shr64 26 3 (.tmp 9) (.tmp 12) rfl (Mur.u64n n) 0 .i64 (by kernel_rfl) (by kernel_rfl) (by omega) 1 rfl) ?_
  refine Wk.rPure 7 (some 14) (.int .u8 (((Mur.u64n n) / 1 % 256 : Nat) : Int)) rfl rfl (by kernel_rfl) (Mur.conv_u8 26 5 (.tmp 13) rfl (by kernel_rfl) Tryd.underlying5 .u64 ((Mur.u64n n) / 1) (by kernel_rfl)) ?_
  refine Wk.rPure 8 (some 15) (.pointer (some ⟨w.heap.size, 7, none⟩)) rfl rfl (by kernel_rfl) (Wk.index_arr 127 5 (.tmp 2) (.tmp 7) rfl 8 Tryd.underlying127 1 (by kernel_rfl) w.heap.size 0 7 .i64 (by kernel_rfl) (by kernel_rfl) (by decide)) ?_
  refine Wk.rExS 9 none _ rfl rfl (by kernel_rfl) (Wk.store1 5 (.tmp 15) (.tmp 14) rfl (by kernel_rfl) w.heap.size 7 (by kernel_rfl) (.int .u8 (((Mur.u64n n) / 1 % 256 : Nat) : Int)) (by kernel_rfl) rfl 127 #[.int .u8 (((Mur.u64n n) / 72057594037927936 % 256 : Nat) : Int), .int .u8 (((Mur.u64n n) / 281474976710656 % 256 : Nat) : Int), .int .u8 (((Mur.u64n n) / 1099511627776 % 256 : Nat) : Int), .int .u8 (((Mur.u64n n) / 4294967296 % 256 : Nat) : Int), .int .u8 (((Mur.u64n n) / 16777216 % 256 : Nat) : Int), .int .u8 (((Mur.u64n n) / 65536 % 256 : Nat) : Int), .int .u8 (((Mur.u64n n) / 256 % 256 : Nat) : Int), .int .u8 0] hb8 (by simp)) ?_
  rintro W9 ⟨hb9, ch9⟩
  replace hb9 : W9.heap[w.heap.size]? = some (.cells #[.int .u8 (((Mur.u64n n) / 72057594037927936 % 256 : Nat) : Int), .int .u8 (((Mur.u64n n) / 281474976710656 % 256 : Nat) : Int), .int .u8 (((Mur.u64n n) / 1099511627776 % 256 : Nat) : Int), .int .u8 (((Mur.u64n n) / 4294967296 % 256 : Nat) : Int), .int .u8 (((Mur.u64n n) / 16777216 % 256 : Nat) : Int), .int .u8 (((Mur.u64n n) / 65536 % 256 : Nat) : Int), .int .u8 (((Mur.u64n n) / 256 % 256 : Nat) : Int), .int .u8 (((Mur.u64n n) / 1 % 256 : Nat) : Int)] 127 (0, 0)) := hb9
  have zz9 := ch9.size
  refine Wk.rEnd 10 rfl ?_
  refine Wk.inN ?_
  refine Wk.nxt ?_
  refine Wk.reg ?_
  refine Wk.rPure 0 (some 16) (.int .i64 8) rfl rfl (by kernel_rfl) (Wk.int64 (n := 7 + 1) (z := 8) (by omega) (by omega) (by omega) (by kernel_rfl)) ?_
  refine Wk.rPure 1 (some 4) (.int .i64 8) rfl rfl (by kernel_rfl) (by kernel_rfl) ?_
  refine Wk.rEnd 2 rfl ?_
  refine Wk.nxt ?_
  refine Wk.rdS ?_
  refine wp_seq ?_
  refine Wk.reg ?_
  refine Wk.rPure 0 (some 5) (.bool false) rfl rfl (by kernel_rfl) (Wk.boolF (b := decide ((8 : Int) < (8 : Int))) (decide_eq_false (by decide)) (by kernel_rfl)) ?_
  refine Wk.rEnd 1 rfl ?_
  refine Wk.nxt ?_
  refine wp_seq ?_
  refine wp_cond_false (by kernel_rfl) ?_
  refine wp_exit ?_
  refine Wk.thX ?_
  refine Wk.thX ?_
  refine Wk.inX ?_
  refine Wk.nxt ?_
  refine wp_seq ?_
  refine Wk.reg ?_
  refine Wk.rPure 0 (some 17) (.agg #[.int .u8 (((Mur.u64n n) / 72057594037927936 % 256 : Nat) : Int), .int .u8 (((Mur.u64n n) / 281474976710656 % 256 : Nat) : Int), .int .u8 (((Mur.u64n n) / 1099511627776 % 256 : Nat) : Int), .int .u8 (((Mur.u64n n) / 4294967296 % 256 : Nat) : Int), .int .u8 (((Mur.u64n n) / 16777216 % 256 : Nat) : Int), .int .u8 (((Mur.u64n n) / 65536 % 256 : Nat) : Int), .int .u8 (((Mur.u64n n) / 256 % 256 : Nat) : Int), .int .u8 (((Mur.u64n n) / 1 % 256 : Nat) : Int)]) rfl rfl (by kernel_rfl) (Wk.loadR 127 (.tmp 2) rfl _ Tryd.underlying127 rfl w.heap.size 0 (by kernel_rfl) ([.int .u8 (((Mur.u64n n) / 72057594037927936 % 256 : Nat) : Int), .int .u8 (((Mur.u64n n) / 281474976710656 % 256 : Nat) : Int), .int .u8 (((Mur.u64n n) / 1099511627776 % 256 : Nat) : Int), .int .u8 (((Mur.u64n n) / 4294967296 % 256 : Nat) : Int), .int .u8 (((Mur.u64n n) / 16777216 % 256 : Nat) : Int), .int .u8 (((Mur.u64n n) / 65536 % 256 : Nat) : Int), .int .u8 (((Mur.u64n n) / 256 % 256 : Nat) : Int), .int .u8 (((Mur.u64n n) / 1 % 256 : Nat) : Int)]) (by kernel_rfl) (Wk.range_row hb9)) ?_
  refine Wk.rExS 1 none _ rfl rfl (by kernel_rfl) (Wk.storeR 127 (.tmp 2) (.tmp 17) rfl w.heap.size 0 (by kernel_rfl) ([.int .u8 (((Mur.u64n n) / 72057594037927936 % 256 : Nat) : Int), .int .u8 (((Mur.u64n n) / 281474976710656 % 256 : Nat) : Int), .int .u8 (((Mur.u64n n) / 1099511627776 % 256 : Nat) : Int), .int .u8 (((Mur.u64n n) / 4294967296 % 256 : Nat) : Int), .int .u8 (((Mur.u64n n) / 16777216 % 256 : Nat) : Int), .int .u8 (((Mur.u64n n) / 65536 % 256 : Nat) : Int), .int .u8 (((Mur.u64n n) / 256 % 256 : Nat) : Int), .int .u8 (((Mur.u64n n) / 1 % 256 : Nat) : Int)]) (by kernel_rfl) (by kernel_rfl) (by intro v hv; simp at hv; rcases hv with h | h | h | h | h | h | h | h <;> (subst h; rfl)) 127 ([.int .u8 (((Mur.u64n n) / 72057594037927936 % 256 : Nat) : Int), .int .u8 (((Mur.u64n n) / 281474976710656 % 256 : Nat) : Int), .int .u8 (((Mur.u64n n) / 1099511627776 % 256 : Nat) : Int), .int .u8 (((Mur.u64n n) / 4294967296 % 256 : Nat) : Int), .int .u8 (((Mur.u64n n) / 16777216 % 256 : Nat) : Int), .int .u8 (((Mur.u64n n) / 65536 % 256 : Nat) : Int), .int .u8 (((Mur.u64n n) / 256 % 256 : Nat) : Int), .int .u8 (((Mur.u64n n) / 1 % 256 : Nat) : Int)]) hb9 (by simp)) ?_
  rintro W10 ⟨hb10, ch10⟩
  replace hb10 : W10.heap[w.heap.size]? = some (.cells #[.int .u8 (((Mur.u64n n) / 72057594037927936 % 256 : Nat) : Int), .int .u8 (((Mur.u64n n) / 281474976710656 % 256 : Nat) : Int), .int .u8 (((Mur.u64n n) / 1099511627776 % 256 : Nat) : Int), .int .u8 (((Mur.u64n n) / 4294967296 % 256 : Nat) : Int), .int .u8 (((Mur.u64n n) / 16777216 % 256 : Nat) : Int), .int .u8 (((Mur.u64n n) / 65536 % 256 : Nat) : Int), .int .u8 (((Mur.u64n n) / 256 % 256 : Nat) : Int), .int .u8 (((Mur.u64n n) / 1 % 256 : Nat) : Int)] 127 (0, 0)) := hb10
  have zz10 := ch10.size
  refine Wk.rEnd 2 rfl ?_
  refine Wk.nxt ?_
  refine wp_ret ?_
  have kk1 : Wk.Chg [] w W1 := Wk.Chg.step ((Wk.Chg.refl _).more (by simp)) ch1 trivial
  have kk2 := Wk.Chg.step kk1 ch2 ⟨.inr (by omega), trivial⟩
  have kk3 := Wk.Chg.step kk2 ch3 ⟨.inr (by omega), trivial⟩
  have kk4 := Wk.Chg.step kk3 ch4 ⟨.inr (by omega), trivial⟩
  have kk5 := Wk.Chg.step kk4 ch5 ⟨.inr (by omega), trivial⟩
  have kk6 := Wk.Chg.step kk5 ch6 ⟨.inr (by omega), trivial⟩
  have kk7 := Wk.Chg.step kk6 ch7 ⟨.inr (by omega), trivial⟩
  have kk8 := Wk.Chg.step kk7 ch8 ⟨.inr (by omega), trivial⟩
  have kk9 := Wk.Chg.step kk8 ch9 ⟨.inr (by omega), trivial⟩
  have kk10 := Wk.Chg.step kk9 ch10 ⟨.inr (by omega), trivial⟩
  refine Wk.ret (.agg #[.int .u8 (((Mur.u64n n) / 72057594037927936 % 256 : Nat) : Int), .int .u8 (((Mur.u64n n) / 281474976710656 % 256 : Nat) : Int), .int .u8 (((Mur.u64n n) / 1099511627776 % 256 : Nat) : Int), .int .u8 (((Mur.u64n n) / 4294967296 % 256 : Nat) : Int), .int .u8 (((Mur.u64n n) / 16777216 % 256 : Nat) : Int), .int .u8 (((Mur.u64n n) / 65536 % 256 : Nat) : Int), .int .u8 (((Mur.u64n n) / 256 % 256 : Nat) : Int), .int .u8 (((Mur.u64n n) / 1 % 256 : Nat) : Int)]) rfl (results_cell_row rfl _ _ w.heap.size 127 #[.int .u8 (((Mur.u64n n) / 72057594037927936 % 256 : Nat) : Int), .int .u8 (((Mur.u64n n) / 281474976710656 % 256 : Nat) : Int), .int .u8 (((Mur.u64n n) / 1099511627776 % 256 : Nat) : Int), .int .u8 (((Mur.u64n n) / 4294967296 % 256 : Nat) : Int), .int .u8 (((Mur.u64n n) / 16777216 % 256 : Nat) : Int), .int .u8 (((Mur.u64n n) / 65536 % 256 : Nat) : Int), .int .u8 (((Mur.u64n n) / 256 % 256 : Nat) : Int), .int .u8 (((Mur.u64n n) / 1 % 256 : Nat) : Int)] (0, 0) _ (by kernel_rfl) hb10 Tryd.underlying127 rfl (by kernel_rfl)) ?_
  exact ⟨_, Go.Lib.hid rfl, Mur.e8_length _, by rw [Mur.e8_cells], kk10⟩
end Go.Proofs.YtfhneademopciaaDoor
namespace Go.Proofs.YtfhneademopciaaDoor
open Go.RowKit
open Mur (b8s Byt Own8 Seg Segs flat cutA attC)
set_option maxRecDepth 100000
set_option maxHeartbeats 4000000
theorem Reight_any (n : Int) (w : World) : Calls Tryd.prog 71 #[.int .i64 n] w fun e w' => ∃ q E, Hid (E = Mur.e8 (Mur.u64n n)) ∧ e = .returned (.slice (some ⟨q, 0, none⟩) 8 8) ∧ Byt w' (some ⟨q, 0, none⟩) 8 E ∧ (w.heap.size ≤ q ∧ q < w'.heap.size) ∧ Wk.Chg [] w w' := by
  refine calls_of_wp Tryd.func71 rfl ?_
  refine wp_seq ?_
  refine Wk.reg ?_
  refine Wk.rPure 0 (some 2) (.slice none 0 0) rfl rfl (by kernel_rfl) (by kernel_rfl) ?_
  refine Wk.rEnd 1 rfl ?_
  refine Wk.nxt ?_
  refine wp_seq ?_
  refine Wk.reg ?_
  refine Wk.rPure 0 (some 6) (.int .i64 n) rfl rfl (by kernel_rfl) (by kernel_rfl) ?_
  refine Wk.rPure 1 (some 7) (.int .u64 ((Mur.u64n n : Nat) : Int)) rfl rfl (by kernel_rfl) (Mur.conv_u64n 3 26 (.tmp 6) rfl (by kernel_rfl) Tryd.underlying26 .i64 n (by kernel_rfl)) ?_
  refine Wk.rPure 2 (some 3) (.int .u64 ((Mur.u64n n : Nat) : Int)) rfl rfl (by kernel_rfl) (by kernel_rfl) ?_
  refine Wk.rEnd 3 rfl ?_
  refine Wk.nxt ?_
  refine wp_seq ?_
  refine Wk.reg ?_
  refine Wk.rEx 0 (some 8) _ rfl rfl (by kernel_rfl) (Wk.new_ex (.slice (some ⟨w.heap.size, 0, none⟩) 8 8) #[.int .u8 0, .int .u8 0, .int .u8 0, .int .u8 0, .int .u8 0, .int .u8 0, .int .u8 0, .int .u8 0] 5 (by kernel_rfl)) ?_
  rintro _ W1 ⟨rfl, hb1, ch1, sz1⟩
  have zz1 := ch1.size
  refine Wk.rPure 1 (some 4) (.slice (some ⟨w.heap.size, 0, none⟩) 8 8) rfl rfl (by kernel_rfl) (by kernel_rfl) ?_
  refine Wk.rEnd 2 rfl ?_
  refine Wk.nxt ?_
  refine wp_seq ?_
  refine wp_seq ?_
  refine Wk.reg ?_
  refine Wk.rPure 0 (some 5) (.int .i64 7) rfl rfl (by kernel_rfl) (by kernel_rfl) ?_
  refine Wk.rEnd 1 rfl ?_
  refine Wk.nxt ?_
  refine wp_block ?_
  refine Wk.loopN 9 ?_
  refine Wk.rdS ?_
  refine wp_seq ?_
  refine wp_seq ?_
  refine Wk.reg ?_
  refine Wk.rPure 0 (some 9) (.int .i64 7) rfl rfl (by kernel_rfl) (by kernel_rfl) ?_
  refine Wk.rPure 1 (some 10) (.bool true) rfl rfl (by kernel_rfl) (Wk.boolT (b := decide ((7 : Int) ≥ (0 : Int))) (decide_eq_true (by decide)) (by kernel_rfl)) ?_
  refine Wk.rEnd 2 rfl ?_
  refine Wk.nxt ?_
  refine wp_cond_true (by kernel_rfl) ?_
  refine wp_skip ?_
  refine Wk.nxt ?_
  refine wp_seq ?_
  refine wp_block ?_
  refine wp_seq ?_
  refine Wk.reg ?_
  refine Wk.rPure 0 (some 13) (.slice (some ⟨w.heap.size, 0, none⟩) 8 8) rfl rfl (by kernel_rfl) (by kernel_rfl) ?_
  refine Wk.rPure 1 (some 14) (.int .i64 7) rfl rfl (by kernel_rfl) (by kernel_rfl) ?_
  refine Wk.rPure 2 (some 15) (.int .u64 ((Mur.u64n n : Nat) : Int)) rfl rfl (by kernel_rfl) (by kernel_rfl) ?_
  refine Wk.rPure 3 (some 16) (.int .u64 ((Mur.u64n n % 256 : Nat) : Int)) rfl rfl (by kernel_rfl) (Mur.rem_u64 26 26 (.tmp 15) (.const (.int .u64 256)) rfl (Mur.u64n n) 256 (by kernel_rfl) (by kernel_rfl) (by omega)) ?_
  refine Wk.rPure 4 (some 17) (.int .u8 ((Mur.u64n n % 256 : Nat) : Int)) rfl rfl (by kernel_rfl) (Mur.conv_int 26 5 (.tmp 16) rfl (by kernel_rfl) .u8 Tryd.underlying5 .u64 ((Mur.u64n n % 256 : Nat) : Int) (by kernel_rfl) (by rw [Mur.u8_mod]; omega)) ?_
  refine Wk.rPure 5 (some 18) (.pointer (some ⟨w.heap.size, 7, none⟩)) rfl rfl (by kernel_rfl) (Wk.index_sl 38 5 (.tmp 13) (.tmp 14) rfl Tryd.underlying38 1 (by kernel_rfl) w.heap.size 0 8 8 7 .i64 (by kernel_rfl) (by kernel_rfl) (by omega)) ?_
  refine Wk.rExS 6 none _ rfl rfl (by kernel_rfl) (Wk.store1 5 (.tmp 18) (.tmp 17) rfl (by kernel_rfl) w.heap.size 7 (by kernel_rfl) (.int .u8 ((Mur.u64n n % 256 : Nat) : Int)) (by kernel_rfl) rfl 5 #[.int .u8 0, .int .u8 0, .int .u8 0, .int .u8 0, .int .u8 0, .int .u8 0, .int .u8 0, .int .u8 0] hb1 (by simp)) ?_
  rintro W2 ⟨hb2, ch2⟩
  replace hb2 : W2.heap[w.heap.size]? = some (.cells #[.int .u8 0, .int .u8 0, .int .u8 0, .int .u8 0, .int .u8 0, .int .u8 0, .int .u8 0, .int .u8 ((Mur.u64n n % 256 : Nat) : Int)] 5 (0, 0)) := hb2
  have zz2 := ch2.size
  refine Wk.rEnd 7 rfl ?_
  refine Wk.nxt ?_
  refine Wk.reg ?_
  refine Wk.rPure 0 (some 19) (.int .u64 ((Mur.u64n n : Nat) : Int)) rfl rfl (by kernel_rfl) (by kernel_rfl) ?_
  refine Wk.rPure 1 (some 20) (.int .u64 ((Mur.u64n n / 256 : Nat) : Int)) rfl rfl (by kernel_rfl) (Mur.quo_u64 26 26 (.tmp 19) (.const (.int .u64 256)) rfl (Mur.u64n n) 256 (by kernel_rfl) (by kernel_rfl) (by omega) (by have := Mur.u64n_lt n; omega)) ?_
  refine Wk.rPure 2 (some 3) (.int .u64 ((Mur.u64n n / 256 : Nat) : Int)) rfl rfl (by kernel_rfl) (by kernel_rfl) ?_
  refine Wk.rEnd 3 rfl ?_
  refine Wk.inN ?_
  refine Wk.nxt ?_
  refine Wk.reg ?_
  refine Wk.rPure 0 (some 11) (.int .i64 7) rfl rfl (by kernel_rfl) (by kernel_rfl) ?_
  refine Wk.rPure 1 (some 12) (.int .i64 6) rfl rfl (by kernel_rfl) (Wk.int64 (n := 7 - 1) (z := 6) (by omega) (by omega) (by omega) (by kernel_rfl)) ?_
  refine Wk.rPure 2 (some 5) (.int .i64 6) rfl rfl (by kernel_rfl) (by kernel_rfl) ?_
  refine Wk.rEnd 3 rfl ?_
  refine Wk.nxt ?_
  refine Wk.rdS ?_
  refine wp_seq ?_
  refine wp_seq ?_
  refine Wk.reg ?_
  refine Wk.rPure 0 (some 9) (.int .i64 6) rfl rfl (by kernel_rfl) (by kernel_rfl) ?_
  refine Wk.rPure 1 (some 10) (.bool true) rfl rfl (by kernel_rfl) (Wk.boolT (b := decide ((6 : Int) ≥ (0 : Int))) (decide_eq_true (by decide)) (by kernel_rfl)) ?_
  refine Wk.rEnd 2 rfl ?_
  refine Wk.nxt ?_
  refine wp_cond_true (by kernel_rfl) ?_
  refine wp_skip ?_
  refine Wk.nxt ?_
  refine wp_seq ?_
  refine wp_block ?_
  refine wp_seq ?_
  refine Wk.reg ?_
  refine Wk.rPure 0 (some 13) (.slice (some ⟨w.heap.size, 0, none⟩) 8 8) rfl rfl (by kernel_rfl) (by kernel_rfl) ?_
  refine Wk.rPure 1 (some 14) (.int .i64 6) rfl rfl (by kernel_rfl) (by kernel_rfl) ?_
  refine Wk.rPure 2 (some 15) (.int .u64 ((Mur.u64n n / 256 : Nat) : Int)) rfl rfl (by kernel_rfl) (by kernel_rfl) ?_
  refine Wk.rPure 3 (some 16) (.int .u64 ((Mur.u64n n / 256 % 256 : Nat) : Int)) rfl rfl (by kernel_rfl) (Mur.rem_u64 26 26 (.tmp 15) (.const (.int .u64 256)) rfl (Mur.u64n n / 256) 256 (by kernel_rfl) (by kernel_rfl) (by omega)) ?_
  refine Wk.rPure 4 (some 17) (.int .u8 ((Mur.u64n n / 256 % 256 : Nat) : Int)) rfl rfl (by kernel_rfl) (Mur.conv_int 26 5 (.tmp 16) rfl (by kernel_rfl) .u8 Tryd.underlying5 .u64 ((Mur.u64n n / 256 % 256 : Nat) : Int) (by kernel_rfl) (by rw [Mur.u8_mod]; omega)) ?_
  refine Wk.rPure 5 (some 18) (.pointer (some ⟨w.heap.size, 6, none⟩)) rfl rfl (by kernel_rfl) (Wk.index_sl 38 5 (.tmp 13) (.tmp 14) rfl Tryd.underlying38 1 (by kernel_rfl) w.heap.size 0 8 8 6 .i64 (by kernel_rfl) (by kernel_rfl) (by omega)) ?_
  refine Wk.rExS 6 none _ rfl rfl (by kernel_rfl) (Wk.store1 5 (.tmp 18) (.tmp 17) rfl (by kernel_rfl) w.heap.size 6 (by kernel_rfl) (.int .u8 ((Mur.u64n n / 256 % 256 : Nat) : Int)) (by kernel_rfl) rfl 5 #[.int .u8 0, .int .u8 0, .int .u8 0, .int .u8 0, .int .u8 0, .int .u8 0, .int .u8 0, .int .u8 ((Mur.u64n n % 256 : Nat) : Int)] hb2 (by simp)) ?_
  rintro W3 ⟨hb3, ch3⟩
  replace hb3 : W3.heap[w.heap.size]? = some (.cells #[.int .u8 0, .int .u8 0, .int .u8 0, .int .u8 0, .int .u8 0, .int .u8 0, .int .u8 ((Mur.u64n n / 256 % 256 : Nat) : Int), .int .u8 ((Mur.u64n n % 256 : Nat) : Int)] 5 (0, 0)) := hb3
  have zz3 := ch3.size
  refine Wk.rEnd 7 rfl ?_
  refine Wk.nxt ?_
  refine Wk.reg ?_
  refine Wk.rPure 0 (some 19) (.int .u64 ((Mur.u64n n / 256 : Nat) : Int)) rfl rfl (by kernel_rfl) (by kernel_rfl) ?_
  refine Wk.rPure 1 (some 20) (.int .u64 ((Mur.u64n n / 256 / 256 : Nat) : Int)) rfl rfl (by kernel_rfl) (Mur.quo_u64 26 26 (.tmp 19) (.const (.int .u64 256)) rfl (Mur.u64n n / 256) 256 (by kernel_rfl) (by kernel_rfl) (by omega) (by have := Mur.u64n_lt n; omega)) ?_
  refine Wk.rPure 2 (some 3) (.int .u64 ((Mur.u64n n / 256 / 256 : Nat) : Int)) rfl rfl (by kernel_rfl) (by kernel_rfl) ?_
  refine Wk.rEnd 3 rfl ?_
  refine Wk.inN ?_
  refine Wk.nxt ?_
  refine Wk.reg ?_
  refine Wk.rPure 0 (some 11) (.int .i64 6) rfl rfl (by kernel_rfl) (by kernel_rfl) ?_
  refine Wk.rPure 1 (some 12) (.int .i64 5) rfl rfl (by kernel_rfl) (Wk.int64 (n := 6 - 1) (z := 5) (by omega) (by omega) (by omega) (by kernel_rfl)) ?_
  refine Wk.rPure 2 (some 5) (.int .i64 5) rfl rfl (by kernel_rfl) (by kernel_rfl) ?_
  refine Wk.rEnd 3 rfl ?_
  refine Wk.nxt ?_
  refine Wk.rdS ?_
  refine wp_seq ?_
  refine wp_seq ?_
  refine Wk.reg ?_
  refine Wk.rPure 0 (some 9) (.int .i64 5) rfl rfl (by kernel_rfl) (by kernel_rfl) ?_
  refine Wk.rPure 1 (some 10) (.bool true) rfl rfl (by kernel_rfl) (Wk.boolT (b := decide ((5 : Int) ≥ (0 : Int))) (decide_eq_true (by decide)) (by kernel_rfl)) ?_
  refine Wk.rEnd 2 rfl ?_
  refine Wk.nxt ?_
  refine wp_cond_true (by kernel_rfl) ?_
  refine wp_skip ?_
  refine Wk.nxt ?_
  refine wp_seq ?_
  refine wp_block ?_
  refine wp_seq ?_
  refine Wk.reg ?_
  refine Wk.rPure 0 (some 13) (.slice (some ⟨w.heap.size, 0, none⟩) 8 8) rfl rfl (by kernel_rfl) (by kernel_rfl) ?_
  refine Wk.rPure 1 (some 14) (.int .i64 5) rfl rfl (by kernel_rfl) (by kernel_rfl) ?_
  refine Wk.rPure 2 (some 15) (.int .u64 ((Mur.u64n n / 256 / 256 : Nat) : Int)) rfl rfl (by kernel_rfl) (by kernel_rfl) ?_
  refine Wk.rPure 3 (some 16) (.int .u64 ((Mur.u64n n / 256 / 256 % 256 : Nat) : Int)) rfl rfl (by kernel_rfl) (Mur.rem_u64 26 26 (.tmp 15) (.const (.int .u64 256)) rfl (Mur.u64n n / 256 / 256) 256 (by kernel_rfl) (by kernel_rfl) (by omega)) ?_
  refine Wk.rPure 4 (some 17) (.int .u8 ((Mur.u64n n / 256 / 256 % 256 : Nat) : Int)) rfl rfl (by kernel_rfl) (Mur.conv_int 26 5 (.tmp 16) rfl (by kernel_rfl) .u8 Tryd.underlying5 .u64 ((Mur.u64n n / 256 / 256 % 256 : Nat) : Int) (by kernel_rfl) (by rw [Mur.u8_mod]; omega)) ?_
  refine Wk.rPure 5 (some 18) (.pointer (some ⟨w.heap.size, 5, none⟩)) rfl rfl (by kernel_rfl) (Wk.index_sl 38 5 (.tmp 13) (.tmp 14) rfl Tryd.underlying38 1 (by kernel_rfl) w.heap.size 0 8 8 5 .i64 (by kernel_rfl) (by kernel_rfl) (by omega)) ?_
  refine Wk.rExS 6 none _ rfl rfl (by kernel_rfl) (Wk.store1 5 (.tmp 18) (.tmp 17) rfl (by kernel_rfl) w.heap.size 5 (by kernel_rfl) (.int .u8 ((Mur.u64n n / 256 / 256 % 256 : Nat) : Int)) (by kernel_rfl) rfl 5 #[.int .u8 0, .int .u8 0, .int .u8 0, .int .u8 0, .int .u8 0, .int .u8 0, .int .u8 ((Mur.u64n n / 256 % 256 : Nat) : Int), .int .u8 ((Mur.u64n n % 256 : Nat) : Int)] hb3 (by simp)) ?_
  rintro W4 ⟨hb4, ch4⟩
  replace hb4 : W4.heap[w.heap.size]? = some (.cells #[.int .u8 0, .int .u8 0, .int .u8 0, .int .u8 0, .int .u8 0, .int .u8 ((Mur.u64n n / 256 / 256 % 256 : Nat) : Int), .int .u8 ((Mur.u64n n / 256 % 256 : Nat) : Int), .int .u8 ((Mur.u64n n % 256 : Nat) : Int)] 5 (0, 0)) := hb4
  have zz4 := ch4.size
  refine Wk.rEnd 7 rfl ?_
  refine Wk.nxt ?_
  refine Wk.reg ?_
  refine Wk.rPure 0 (some 19) (.int .u64 ((Mur.u64n n / 256 / 256 : Nat) : Int)) rfl rfl (by kernel_rfl) (by kernel_rfl) ?_
  refine Wk.rPure 1 (some 20) (.int .u64 ((Mur.u64n n / 256 / 256 / 256 : Nat) : Int)) rfl rfl (by kernel_rfl) (Mur.quo_u64 26 26 (.tmp 19) (.const (.int .u64 256)) rfl (Mur.u64n n / 256 / 256) 256 (by kernel_rfl) (by kernel_rfl) (by omega) (by have := Mur.u64n_lt n; omega)) ?_
  refine Wk.rPure 2 (some 3) (.int .u64 ((Mur.u64n n / 256 / 256 / 256 : Nat) : Int)) rfl rfl (by kernel_rfl) (by kernel_rfl) ?_
  refine Wk.rEnd 3 rfl ?_
  refine Wk.inN ?_
  refine Wk.nxt ?_
  refine Wk.reg ?_
  refine Wk.rPure 0 (some 11) (.int .i64 5) rfl rfl (by kernel_rfl) (by kernel_rfl) ?_
  refine Wk.rPure 1 (some 12) (.int .i64 4) rfl rfl (by kernel_rfl) (Wk.int64 (n := 5 - 1) (z := 4) (by omega) (by omega) (by omega) (by kernel_rfl)) ?_
  refine Wk.rPure 2 (some 5) (.int .i64 4) rfl rfl (by kernel_rfl) (by kernel_rfl) ?_
  refine Wk.rEnd 3 rfl ?_
  refine Wk.nxt ?_
  refine Wk.rdS ?_
  refine wp_seq ?_
  refine wp_seq ?_
  refine Wk.reg ?_
  refine Wk.rPure 0 (some 9) (.int .i64 4) rfl rfl (by kernel_rfl) (by kernel_rfl) ?_
  refine Wk.rPure 1 (some 10) (.bool true) rfl rfl (by kernel_rfl) (Wk.boolT (b := decide ((4 : Int) ≥ (0 : Int))) (decide_eq_true (by decide)) (by kernel_rfl)) ?_
  refine Wk.rEnd 2 rfl ?_
  refine Wk.nxt ?_
  refine wp_cond_true (by kernel_rfl) ?_
  refine wp_skip ?_
  refine Wk.nxt ?_
  refine wp_seq ?_
  refine wp_block ?_
  refine wp_seq ?_
  refine Wk.reg ?_
  refine Wk.rPure 0 (some 13) (.slice (some ⟨w.heap.size, 0, none⟩) 8 8) rfl rfl (by kernel_rfl) (by kernel_rfl) ?_
  refine Wk.rPure 1 (some 14) (.int .i64 4) rfl rfl (by kernel_rfl) (by kernel_rfl) ?_
  refine Wk.rPure 2 (some 15) (.int .u64 ((Mur.u64n n / 256 / 256 / 256 : Nat) : Int)) rfl rfl (by kernel_rfl) (by kernel_rfl) ?_
  refine Wk.rPure 3 (some 16) (.int .u64 ((Mur.u64n n / 256 / 256 / 256 % 256 : Nat) : Int)) rfl rfl (by kernel_rfl) (Mur.rem_u64 26 26 (.tmp 15) (.const (.int .u64 256)) rfl (Mur.u64n n / 256 / 256 / 256) 256 (by kernel_rfl) (by kernel_rfl) (by omega)) ?_
  refine Wk.rPure 4 (some 17) (.int .u8 ((Mur.u64n n / 256 / 256 / 256 % 256 : Nat) : Int)) rfl rfl (by kernel_rfl) (Mur.conv_int 26 5 (.tmp 16) rfl (by kernel_rfl) .u8 Tryd.underlying5 .u64 ((Mur.u64n n / 256 / 256 / 256 % 256 : Nat) : Int) (by kernel_rfl) (by rw [Mur.u8_mod]; omega)) ?_
  refine Wk.rPure 5 (some 18) (.pointer (some ⟨w.heap.size, 4, none⟩)) rfl rfl (by kernel_rfl) (Wk.index_sl 38 5 (.tmp 13) (.tmp 14) rfl Tryd.underlying38 1 (by kernel_rfl) w.heap.size 0 8 8 4 .i64 (by kernel_rfl) (by kernel_rfl) (by omega)) ?_
  refine Wk.rExS 6 none _ rfl rfl (by kernel_rfl) (Wk.store1 5 (.tmp 18) (.tmp 17) rfl (by kernel_rfl) w.heap.size 4 (by kernel_rfl) (.int .u8 ((Mur.u64n n / 256 / 256 / 256 % 256 : Nat) : Int)) (by kernel_rfl) rfl 5 #[.int .u8 0, .int .u8 0, .int .u8 0, .int .u8 0, .int .u8 0, .int .u8 ((Mur.u64n n / 256 / 256 % 256 : Nat) : Int), .int .u8 ((Mur.u64n n / 256 % 256 : Nat) : Int), .int .u8 ((Mur.u64n n % 256 : Nat) : Int)] hb4 (by simp)) ?_
  rintro W5 ⟨hb5, ch5⟩
  replace hb5 : W5.heap[w.heap.size]? = some (.cells #[.int .u8 0, .int .u8 0, .int .u8 0, .int .u8 0, .int .u8 ((Mur.u64n n / 256 / 256 / 256 % 256 : Nat) : Int), .int .u8 ((Mur.u64n n / 256 / 256 % 256 : Nat) : Int), .int .u8 ((Mur.u64n n / 256 % 256 : Nat) : Int), .int .u8 ((Mur.u64n n % 256 : Nat) : Int)] 5 (0, 0)) := hb5
  have zz5 := ch5.size
  refine Wk.rEnd 7 rfl ?_
  refine Wk.nxt ?_
  refine Wk.reg ?_
  refine Wk.rPure 0 (some 19) (.int .u64 ((Mur.u64n n / 256 / 256 / 256 : Nat) : Int)) rfl rfl (by kernel_rfl) (by kernel_rfl) ?_
  refine Wk.rPure 1 (some 20) (.int .u64 ((Mur.u64n n / 256 / 256 / 256 / 256 : Nat) : Int)) rfl rfl (by kernel_rfl) (Mur.quo_u64 26 26 (.tmp 19) (.const (.int .u64 256)) rfl (Mur.u64n n / 256 / 256 / 256) 256 (by kernel_rfl) (by kernel_rfl) (by omega) (by have := Mur.u64n_lt n; omega)) ?_
  refine Wk.rPure 2 (some 3) (.int .u64 ((Mur.u64n n / 256 / 256 / 256 / 256 : Nat) : Int)) rfl rfl (by kernel_rfl) (by kernel_rfl) ?_
  refine Wk.rEnd 3 rfl ?_
  refine Wk.inN ?_
  refine Wk.nxt ?_
  refine Wk.reg ?_
  refine Wk.rPure 0 (some 11) (.int .i64 4) rfl rfl (by kernel_rfl) (by kernel_rfl) ?_
  refine Wk.rPure 1 (some 12) (.int .i64 3) rfl rfl (by kernel_rfl) (Wk.int64 (n := 4 - 1) (z := 3) (by omega) (by omega) (by omega) (by kernel_rfl)) ?_
  refine Wk.rPure 2 (some 5) (.int .i64 3) rfl rfl (by kernel_rfl) (by kernel_rfl) ?_
  refine Wk.rEnd 3 rfl ?_
  refine Wk.nxt ?_
  refine Wk.rdS ?_
  refine wp_seq ?_
  refine wp_seq ?_
  refine Wk.reg ?_
  refine Wk.rPure 0 (some 9) (.int .i64 3) rfl rfl (by kernel_rfl) (by kernel_rfl) ?_
  refine Wk.rPure 1 (some 10) (.bool true) rfl rfl (by kernel_rfl) (Wk.boolT (b := decide ((3 : Int) ≥ (0 : Int))) (decide_eq_true (by decide)) (by kernel_rfl)) ?_
  refine Wk.rEnd 2 rfl ?_
  refine Wk.nxt ?_
  refine wp_cond_true (by kernel_rfl) ?_
  refine wp_skip ?_
  refine Wk.nxt ?_
  refine wp_seq ?_
  refine wp_block ?_
  refine wp_seq ?_
  refine Wk.reg ?_
  refine Wk.rPure 0 (some 13) (.slice (some ⟨w.heap.size, 0, none⟩) 8 8) rfl rfl (by kernel_rfl) (by kernel_rfl) ?_
  refine Wk.rPure 1 (some 14) (.int .i64 3) rfl rfl (by kernel_rfl) (by kernel_rfl) ?_
  refine Wk.rPure 2 (some 15) (.int .u64 ((Mur.u64n n / 256 / 256 / 256 / 256 : Nat) : Int)) rfl rfl (by kernel_rfl) (by kernel_rfl) ?_
  refine Wk.rPure 3 (some 16) (.int .u64 ((Mur.u64n n / 256 / 256 / 256 / 256 % 256 : Nat) : Int)) rfl rfl (by kernel_rfl) (Mur.rem_u64 26 26 (.tmp 15) (.const (.int .u64 256)) rfl (Mur.u64n n / 256 / 256 / 256 / 256) 256 (by kernel_rfl) (by kernel_rfl) (by omega)) ?_
  refine Wk.rPure 4 (some 17) (.int .u8 ((Mur.u64n n / 256 / 256 / 256 / 256 % 256 : Nat) : Int)) rfl rfl (by kernel_rfl) (Mur.conv_int 26 5 (.tmp 16) rfl (by kernel_rfl) .u8 Tryd.underlying5 .u64 ((Mur.u64n n / 256 / 256 / 256 / 256 % 256 : Nat) : Int) (by kernel_rfl) (by rw [Mur.u8_mod]; omega)) ?_
  refine Wk.rPure 5 (some 18) (.pointer (some ⟨w.heap.size, 3, none⟩)) rfl rfl (by kernel_rfl) (Wk.index_sl 38 5 (.tmp 13) (.tmp 14) rfl Tryd.underlying38 1 (by kernel_rfl) w.heap.size 0 8 8 3 .i64 (by kernel_rfl) (by kernel_rfl) (by omega)) ?_
  refine Wk.rExS 6 none _ rfl rfl (by kernel_rfl) (Wk.store1 5 (.tmp 18) (.tmp 17) rfl (by kernel_rfl) w.heap.size 3 (by kernel_rfl) (.int .u8 ((Mur.u64n n / 256 / 256 / 256 / 256 % 256 : Nat) : Int)) (by kernel_rfl) rfl 5 #[.int .u8 0, .int .u8 0, .int .u8 0, .int .u8 0, .int .u8 ((Mur.u64n n / 256 / 256 / 256 % 256 : Nat) : Int), .int .u8 ((Mur.u64n n / 256 / 256 % 256 : Nat) : Int), .int .u8 ((Mur.u64n n / 256 % 256 : Nat) : Int), .int .u8 ((Mur.u64n n % 256 : Nat) : Int)] hb5 (by simp)) ?_
  rintro W6 ⟨hb6, ch6⟩
  replace hb6 : W6.heap[w.heap.size]? = some (.cells #[.int .u8 0, .int .u8 0, .int .u8 0, .int .u8 ((Mur.u64n n / 256 / 256 / 256 / 256 % 256 : Nat) : Int), .int .u8 ((Mur.u64n n / 256 / 256 / 256 % 256 : Nat) : Int), .int .u8 ((Mur.u64n n / 256 / 256 % 256 : Nat) : Int), .int .u8 ((Mur.u64n n / 256 % 256 : Nat) : Int), .int .u8 ((Mur.u64n n % 256 : Nat) : Int)] 5 (0, 0)) := hb6
  have zz6 := ch6.size
  refine Wk.rEnd 7 rfl ?_
  refine Wk.nxt ?_
  refine Wk.reg ?_
  refine Wk.rPure 0 (some 19) (.int .u64 ((Mur.u64n n / 256 / 256 / 256 / 256 : Nat) : Int)) rfl rfl (by kernel_rfl) (by kernel_rfl) ?_
  refine Wk.rPure 1 (some 20) (.int .u64 ((Mur.u64n n / 256 / 256 / 256 / 256 / 256 : Nat) : Int)) rfl rfl (by kernel_rfl) (Mur.quo_u64 26 26 (.tmp 19) (.const (.int .u64 256)) rfl (Mur.u64n n / 256 / 256 / 256 / 256) 256 (by kernel_rfl) (by kernel_rfl) (by omega) (by have := Mur.u64n_lt n; omega)) ?_
  refine Wk.rPure 2 (some 3) (.int .u64 ((Mur.u64n n / 256 / 256 / 256 / 256 / 256 : Nat) : Int)) rfl rfl (by kernel_rfl) (by kernel_rfl) ?_
  refine Wk.rEnd 3 rfl ?_
  refine Wk.inN ?_
  refine Wk.nxt ?_
  refine Wk.reg ?_
  refine Wk.rPure 0 (some 11) (.int .i64 3) rfl rfl (by kernel_rfl) (by kernel_rfl) ?_
  refine Wk.rPure 1 (some 12) (.int .i64 2) rfl rfl (by kernel_rfl) (Wk.int64 (n := 3 - 1) (z := 2) (by omega) (by omega) (by omega) (by kernel_rfl)) ?_
  refine Wk.rPure 2 (some 5) (.int .i64 2) rfl rfl (by kernel_rfl) (by kernel_rfl) ?_
  refine Wk.rEnd 3 rfl ?_
  refine Wk.nxt ?_
  refine Wk.rdS ?_
  refine wp_seq ?_
  refine wp_seq ?_
  refine Wk.reg ?_
  refine Wk.rPure 0 (some 9) (.int .i64 2) rfl rfl (by kernel_rfl) (by kernel_rfl) ?_
  refine Wk.rPure 1 (some 10) (.bool true) rfl rfl (by kernel_rfl) (Wk.boolT (b := decide ((2 : Int) ≥ (0 : Int))) (decide_eq_true (by decide)) (by kernel_rfl)) ?_
  refine Wk.rEnd 2 rfl ?_
  refine Wk.nxt ?_
  refine wp_cond_true (by kernel_rfl) ?_
  refine wp_skip ?_
  refine Wk.nxt ?_
  refine wp_seq ?_
  refine wp_block ?_
  refine wp_seq ?_
  refine Wk.reg ?_
  refine Wk.rPure 0 (some 13) (.slice (some ⟨w.heap.size, 0, none⟩) 8 8) rfl rfl (by kernel_rfl) (by kernel_rfl) ?_
  refine Wk.rPure 1 (some 14) (.int .i64 2) rfl rfl (by kernel_rfl) (by kernel_rfl) ?_
  refine Wk.rPure 2 (some 15) (.int .u64 ((Mur.u64n n / 256 / 256 / 256 / 256 / 256 : Nat) : Int)) rfl rfl (by kernel_rfl) (by kernel_rfl) ?_
  refine Wk.rPure 3 (some 16) (.int .u64 ((Mur.u64n n / 256 / 256 / 256 / 256 / 256 % 256 : Nat) : Int)) rfl rfl (by kernel_rfl) (Mur.rem_u64 26 26 (.tmp 15) (.const (.int .u64 256)) rfl (Mur.u64n n / 256 / 256 / 256 / 256 / 256) 256 (by kernel_rfl) (by kernel_rfl) (by omega)) ?_
  refine Wk.rPure 4 (some 17) (.int .u8 ((Mur.u64n n / 256 / 256 / 256 / 256 / 256 % 256 : Nat) : Int)) rfl rfl (by kernel_rfl) (Mur.conv_int 26 5 (.tmp 16) rfl (by kernel_rfl) .u8 Tryd.underlying5 .u64 ((Mur.u64n n / 256 / 256 / 256 / 256 / 256 % 256 : Nat) : Int) (by kernel_rfl) (by rw [Mur.u8_mod]; omega)) ?_
  refine Wk.rPure 5 (some 18) (.pointer (some ⟨w.heap.size, 2, none⟩)) rfl rfl (by kernel_rfl) (Wk.index_sl 38 5 (.tmp 13) (.tmp 14) rfl Tryd.underlying38 1 (by kernel_rfl) w.heap.size 0 8 8 2 .i64 (by kernel_rfl) (by kernel_rfl) (by omega)) ?_
  refine Wk.rExS 6 none _ rfl rfl (by kernel_rfl) (Wk.store1 5 (.tmp 18) (.tmp 17) rfl (by kernel_rfl) w.heap.size 2 (by kernel_rfl) (.int .u8 ((Mur.u64n n / 256 / 256 / 256 / 256 / 256 % 256 : Nat) : Int)) (by kernel_rfl) rfl 5 #[.int .u8 0, .int .u8 0, .int .u8 0, .int .u8 ((Mur.u64n n / 256 / 256 / 256 / 256 % 256 : Nat) : Int), .int .u8 ((Mur.u64n n / 256 / 256 / 256 % 256 : Nat) : Int), .int .u8 ((Mur.u64n n / 256 / 256 % 256 : Nat) : Int), .int .u8 ((Mur.u64n n / 256 % 256 : Nat) : Int), .int .u8 ((Mur.u64n n % 256 : Nat) : Int)] hb6 (by simp)) ?_
  rintro W7 ⟨hb7, ch7⟩
  replace hb7 : W7.heap[w.heap.size]? = some (.cells #[.int .u8 0, .int .u8 0, .int .u8 ((Mur.u64n n / 256 / 256 / 256 / 256 / 256 % 256 : Nat) : Int), .int .u8 ((Mur.u64n n / 256 / 256 / 256 / 256 % 256 : Nat) : Int), .int .u8 ((Mur.u64n n / 256 / 256 / 256 % 256 : Nat) : Int), .int .u8 ((Mur.u64n n / 256 / 256 % 256 : Nat) : Int), .int .u8 ((Mur.u64n n / 256 % 256 : Nat) : Int), .int .u8 ((Mur.u64n n % 256 : Nat) : Int)] 5 (0, 0)) := hb7
  have zz7 := ch7.size
  refine Wk.rEnd 7 rfl ?_
  refine Wk.nxt ?_
  refine Wk.reg ?_
  refine Wk.rPure 0 (some 19) (.int .u64 ((Mur.u64n n / 256 / 256 / 256 / 256 / 256 : Nat) : Int)) rfl rfl (by kernel_rfl) (by kernel_rfl) ?_
  refine Wk.rPure 1 (some 20) (.int .u64 ((Mur.u64n n / 256 / 256 / 256 / 256 / 256 / 256 : Nat) : Int)) rfl rfl (by kernel_rfl) (Mur.quo_u64 26 26 (.tmp 19) (.const (.int .u64 256)) rfl (Mur.u64n n / 256 / 256 / 256 / 256 / 256) 256 (by kernel_rfl) (by kernel_rfl) (by omega) (by have := Mur.u64n_lt n; omega)) ?_
  refine Wk.rPure 2 (some 3) (.int .u64 ((Mur.u64n n / 256 / 256 / 256 / 256 / 256 / 256 : Nat) : Int)) rfl rfl (by kernel_rfl) (by kernel_rfl) ?_
  refine Wk.rEnd 3 rfl ?_
  refine Wk.inN ?_
  refine Wk.nxt ?_
  refine Wk.reg ?_
  refine Wk.rPure 0 (some 11) (.int .i64 2) rfl rfl (by kernel_rfl) (by kernel_rfl) ?_
  refine Wk.rPure 1 (some 12) (.int .i64 1) rfl rfl (by kernel_rfl) (Wk.int64 (n := 2 - 1) (z := 1) (by omega) (by omega) (by omega) (by kernel_rfl)) ?_
  refine Wk.rPure 2 (some 5) (.int .i64 1) rfl rfl (by kernel_rfl) (by kernel_rfl) ?_
  refine Wk.rEnd 3 rfl ?_
  refine Wk.nxt ?_
  refine Wk.rdS ?_
  refine wp_seq ?_
  refine wp_seq ?_
  refine Wk.reg ?_
  refine Wk.rPure 0 (some 9) (.int .i64 1) rfl rfl (by kernel_rfl) (by kernel_rfl) ?_
  refine Wk.rPure 1 (some 10) (.bool true) rfl rfl (by kernel_rfl) (Wk.boolT (b := decide ((1 : Int) ≥ (0 : Int))) (decide_eq_true (by decide)) (by kernel_rfl)) ?_
  refine Wk.rEnd 2 rfl ?_
  refine Wk.nxt ?_
  refine wp_cond_true (by kernel_rfl) ?_
  refine wp_skip ?_
  refine Wk.nxt ?_
  refine wp_seq ?_
  refine wp_block ?_
  refine wp_seq ?_
  refine Wk.reg ?_
  refine Wk.rPure 0 (some 13) (.slice (some ⟨w.heap.size, 0, none⟩) 8 8) rfl rfl (by kernel_rfl) (by kernel_rfl) ?_
  refine Wk.rPure 1 (some 14) (.int .i64 1) rfl rfl (by kernel_rfl) (by kernel_rfl) ?_
  refine Wk.rPure 2 (some 15) (.int .u64 ((Mur.u64n n / 256 / 256 / 256 / 256 / 256 / 256 : Nat) : Int)) rfl rfl (by kernel_rfl) (by kernel_rfl) ?_
  refine Wk.rPure 3 (some 16) (.int .u64 ((Mur.u64n n / 256 / 256 / 256 / 256 / 256 / 256 % 256 : Nat) : Int)) rfl rfl (by kernel_rfl) (Mur.rem_u64 26 26 (.tmp 15) (.const (.int .u64 256)) rfl (Mur.u64n n / 256 / 256 / 256 / 256 / 256 / 256) 256 (by kernel_rfl) (by kernel_rfl) (by omega)) ?_
  refine Wk.rPure 4 (some 17) (.int .u8 ((Mur.u64n n / 256 / 256 / 256 / 256 / 256 / 256 % 256 : Nat) : Int)) rfl rfl (by kernel_rfl) (Mur.conv_int 26 5 (.tmp 16) rfl (by kernel_rfl) .u8 Tryd.underlying5 .u64 ((Mur.u64n n / 256 / 256 / 256 / 256 / 256 / 256 % 256 : Nat) : Int) (by kernel_rfl) (by rw [Mur.u8_mod]; omega)) ?_
  refine Wk.rPure 5 (some 18) (.pointer (some ⟨w.heap.size, 1, none⟩)) rfl rfl (by kernel_rfl) (Wk.index_sl 38 5 (.tmp 13) (.tmp 14) rfl Tryd.underlying38 1 (by kernel_rfl) w.heap.size 0 8 8 1 .i64 (by kernel_rfl) (by kernel_rfl) (by omega)) ?_
  refine Wk.rExS 6 none _ rfl rfl (by kernel_rfl) (Wk.store1 5 (.tmp 18) (.tmp 17) rfl (by kernel_rfl) w.heap.size 1 (by kernel_rfl) (.int .u8 ((Mur.u64n n / 256 / 256 / 256 / 256 / 256 / 256 % 256 : Nat) : Int)) (by kernel_rfl) rfl 5 #[.int .u8 0, .int .u8 0, .int .u8 ((Mur.u64n n / 256 / 256 / 256 / 256 / 256 % 256 : Nat) : Int), .int .u8 ((Mur.u64n n / 256 / 256 / 256 / 256 % 256 : Nat) : Int), .int .u8 ((Mur.u64n n / 256 / 256 / 256 % 256 : Nat) : Int), .int .u8 ((Mur.u64n n / 256 / 256 % 256 : Nat) : Int), .int .u8 ((Mur.u64n n / 256 % 256 : Nat) : Int), .int .u8 ((Mur.u64n n % 256 : Nat) : Int)] hb7 (by simp)) ?_
  rintro W8 ⟨hb8, ch8⟩
  replace hb8 : W8.heap[w.heap.size]? = some (.cells #[.int .u8 0, .int .u8 ((Mur.u64n n / 256 / 256 / 256 / 256 / 256 / 256 % 256 : Nat) : Int), .int .u8 ((Mur.u64n n / 256 / 256 / 256 / 256 / 256 % 256 : Nat) : Int), .int .u8 ((Mur.u64n n / 256 / 256 / 256 / 256 % 256 : Nat) : Int), .int .u8 ((Mur.u64n n / 256 / 256 / 256 % 256 : Nat) : Int), .int .u8 ((Mur.u64n n / 256 / 256 % 256 : Nat) : Int), .int .u8 ((Mur.u64n n / 256 % 256 : Nat) : Int), .int .u8 ((Mur.u64n n % 256 : Nat) : Int)] 5 (0, 0)) := hb8
  have zz8 := ch8.size
  refine Wk.rEnd 7 rfl ?_
  refine Wk.nxt ?_
  refine Wk.reg ?_
  refine Wk.rPure 0 (some 19) (.int .u64 ((Mur.u64n n / 256 / 256 / 256 / 256 / 256 / 256 : Nat) : Int)) rfl rfl (by kernel_rfl) (by kernel_rfl) ?_
  refine Wk.rPure 1 (some 20) (.int .u64 ((Mur.u64n n / 256 / 256 / 256 / 256 / 256 / 256 / 256 : Nat) : Int)) rfl rfl (by kernel_rfl) (Mur.quo_u64 26 26 (.tmp 19) (.const (.int .u64 256)) rfl (Mur.u64n n / 256 / 256 / 256 / 256 / 256 / 256) 256 (by kernel_rfl) (by kernel_rfl) (by omega) (by have := Mur.u64n_lt n; omega)) ?_
  refine Wk.rPure 2 (some 3) (.int .u64 ((Mur.u64n n / 256 / 256 / 256 / 256 / 256 / 256 / 256 : Nat) : Int)) rfl rfl (by kernel_rfl) (by kernel_rfl) ?_
  refine Wk.rEnd 3 rfl ?_
  refine Wk.inN ?_
  refine Wk.nxt ?_
  refine Wk.reg ?_
  refine Wk.rPure 0 (some 11) (.int .i64 1) rfl rfl (by kernel_rfl) (by kernel_rfl) ?_
  refine Wk.rPure 1 (some 12) (.int .i64 0) rfl rfl (by kernel_rfl) (Wk.int64 (n := 1 - 1) (z := 0) (by omega) (by omega) (by omega) (by kernel_rfl)) ?_
  refine Wk.rPure 2 (some 5) (.int .i64 0) rfl rfl (by kernel_rfl) (by kernel_rfl) ?_
  refine Wk.rEnd 3 rfl ?_
  refine Wk.nxt ?_
  refine Wk.rdS ?_
  refine wp_seq ?_
  refine wp_seq ?_
  refine Wk.reg ?_
  refine Wk.rPure 0 (some 9) (.int .i64 0) rfl rfl (by kernel_rfl) (by kernel_rfl) ?_
  refine Wk.rPure 1 (some 10) (.bool true) rfl rfl (by kernel_rfl) (Wk.boolT (b := decide ((0 : Int) ≥ (0 : Int))) (decide_eq_true (by decide)) (by kernel_rfl)) ?_
  refine Wk.rEnd 2 rfl ?_
  refine Wk.nxt ?_
  refine wp_cond_true (by kernel_rfl) ?_
  refine wp_skip ?_
  refine Wk.nxt ?_
  refine wp_seq ?_
  refine wp_block ?_
  refine wp_seq ?_
  refine Wk.reg ?_
  refine Wk.rPure 0 (some 13) (.slice (some ⟨w.heap.size, 0, none⟩) 8 8) rfl rfl (by kernel_rfl) (by kernel_rfl) ?_
  refine Wk.rPure 1 (some 14) (.int .i64 0) rfl rfl (by kernel_rfl) (by kernel_rfl) ?_
  refine Wk.rPure 2 (some 15) (.int .u64 ((Mur.u64n n / 256 / 256 / 256 / 256 / 256 / 256 / 256 : Nat) : Int)) rfl rfl (by kernel_rfl) (by kernel_rfl) ?_
  refine Wk.rPure 3 (some 16) (.int .u64 ((Mur.u64n n / 256 / 256 / 256 / 256 / 256 / 256 / 256 % 256 : Nat) : Int)) rfl rfl (by kernel_rfl) (Mur.rem_u64 26 26 (.tmp 15) (.const (.int .u64 256)) rfl (Mur.u64n n / 256 / 256 / 256 / 256 / 256 / 256 / 256) 256 (by kernel_rfl) (by kernel_rfl) (by omega)) ?_
  refine Wk.rPure 4 (some 17) (.int .u8 ((Mur.u64n n / 256 / 256 / 256 / 256 / 256 / 256 / 256 % 256 : Nat) : Int)) rfl rfl (by kernel_rfl) (Mur.conv_int 26 5 (.tmp 16) rfl (by kernel_rfl) .u8 Tryd.underlying5 .u64 ((Mur.u64n n / 256 / 256 / 256 / 256 / 256 / 256 / 256 % 256 : Nat) : Int) (by kernel_rfl) (by rw [Mur.u8_mod]; omega)) ?_
  refine Wk.rPure 5 (some 18) (.pointer (some ⟨w.heap.size, 0, none⟩)) rfl rfl (by kernel_rfl) (Wk.index_sl 38 5 (.tmp 13) (.tmp 14) rfl Tryd.underlying38 1 (by kernel_rfl) w.heap.size 0 8 8 0 .i64 (by kernel_rfl) (by kernel_rfl) (by omega)) ?_
  refine Wk.rExS 6 none _ rfl rfl (by kernel_rfl) (Wk.store1 5 (.tmp 18) (.tmp 17) rfl (by kernel_rfl) w.heap.size 0 (by kernel_rfl) (.int .u8 ((Mur.u64n n / 256 / 256 / 256 / 256 / 256 / 256 / 256 % 256 : Nat) : Int)) (by kernel_rfl) rfl 5 #[.int .u8 0, .int .u8 ((Mur.u64n n / 256 / 256 / 256 / 256 / 256 / 256 % 256 : Nat) : Int), .int .u8 ((Mur.u64n n / 256 / 256 / 256 / 256 / 256 % 256 : Nat) : Int), .int .u8 ((Mur.u64n n / 256 / 256 / 256 / 256 % 256 : Nat) : Int), .int .u8 ((Mur.u64n n / 256 / 256 / 256 % 256 : Nat) : Int), .int .u8 ((Mur.u64n n / 256 / 256 % 256 : Nat) : Int), .int .u8 ((Mur.u64n n / 256 % 256 : Nat) : Int), .int .u8 ((Mur.u64n n % 256 : Nat) : Int)] hb8 (by simp)) ?_
  rintro W9 ⟨hb9, ch9⟩
  replace hb9 : W9.heap[w.heap.size]? = some (.cells #[.int .u8 ((Mur.u64n n / 256 / 256 / 256 / 256 / 256 / 256 / 256 % 256 : Nat) : Int), .int .u8 ((Mur.u64n n / 256 / 256 / 256 / 256 / 256 / 256 % 256 : Nat) : Int), .int .u8 ((Mur.u64n n / 256 / 256 / 256 / 256 / 256 % 256 : Nat) : Int), .int .u8 ((Mur.u64n n / 256 / 256 / 256 / 256 % 256 : Nat) : Int), .int .u8 ((Mur.u64n n / 256 / 256 / 256 % 256 : Nat) : Int), .int .u8 ((Mur.u64n n / 256 / 256 % 256 : Nat) : Int), .int .u8 ((Mur.u64n n / 256 % 256 : Nat) : Int), .int .u8 ((Mur.u64n n % 256 : Nat) : Int)] 5 (0, 0)) := hb9
  have zz9 := ch9.size
  refine Wk.rEnd 7 rfl ?_
  refine Wk.nxt ?_
  refine Wk.reg ?_
  refine Wk.rPure 0 (some 19) (.int .u64 ((Mur.u64n n / 256 / 256 / 256 / 256 / 256 / 256 / 256 : Nat) : Int)) rfl rfl (by kernel_rfl) (by kernel_rfl) ?_
  refine Wk.rPure 1 (some 20) (.int .u64 ((Mur.u64n n / 256 / 256 / 256 / 256 / 256 / 256 / 256 / 256 : Nat) : Int)) rfl rfl (by kernel_rfl) (Mur.quo_u64 26 26 (.tmp 19) (.const (.int .u64 256)) rfl (Mur.u64n n / 256 / 256 / 256 / 256 / 256 / 256 / 256) 256 (by kernel_rfl) (by kernel_rfl) (by omega) (by have := Mur.u64n_lt n; omega)) ?_
  refine Wk.rPure 2 (some 3) (.int .u64 ((Mur.u64n n / 256 / 256 / 256 / 256 / 256 / 256 / 256 / 256 : Nat) : Int)) rfl rfl (by kernel_rfl) (by kernel_rfl) ?_
  refine Wk.rEnd 3 rfl ?_
  refine Wk.inN ?_
  refine Wk.nxt ?_
  refine Wk.reg ?_
  refine Wk.rPure 0 (some 11) (.int .i64 0) rfl rfl (by kernel_rfl) (by kernel_rfl) ?_
  refine Wk.rPure 1 (some 12) (.int .i64 (-1)) rfl rfl (by kernel_rfl) (Wk.int64 (n := 0 - 1) (z := -1) (by omega) (by omega) (by omega) (by kernel_rfl)) ?_
  refine Wk.rPure 2 (some 5) (.int .i64 (-1)) rfl rfl (by kernel_rfl) (by kernel_rfl) ?_
  refine Wk.rEnd 3 rfl ?_
  refine Wk.nxt ?_
  refine Wk.rdS ?_
  refine wp_seq ?_
  refine wp_seq ?_
  refine Wk.reg ?_
  refine Wk.rPure 0 (some 9) (.int .i64 (-1)) rfl rfl (by kernel_rfl) (by kernel_rfl) ?_
  refine Wk.rPure 1 (some 10) (.bool false) rfl rfl (by kernel_rfl) (Wk.boolF (b := decide ((-1 : Int) ≥ (0 : Int))) (decide_eq_false (by decide)) (by kernel_rfl)) ?_
  refine Wk.rEnd 2 rfl ?_
  refine Wk.nxt ?_
  refine wp_cond_false (by kernel_rfl) ?_
  refine wp_exit ?_
  refine Wk.thX ?_
  refine Wk.thX ?_
  refine Wk.inX ?_
  refine Wk.nxt ?_
  refine wp_seq ?_
  refine Wk.reg ?_
  refine Wk.rPure 0 (some 21) (.slice (some ⟨w.heap.size, 0, none⟩) 8 8) rfl rfl (by kernel_rfl) (by kernel_rfl) ?_
  refine Wk.rPure 1 (some 2) (.slice (some ⟨w.heap.size, 0, none⟩) 8 8) rfl rfl (by kernel_rfl) (by kernel_rfl) ?_
  refine Wk.rEnd 2 rfl ?_
  refine Wk.nxt ?_
  refine wp_ret ?_
  have hfin := hb9
  rw [Mur.e8_quo] at hfin
  have kk1 : Wk.Chg [] w W1 := Wk.Chg.step ((Wk.Chg.refl _).more (by simp)) ch1 trivial
  have kk2 := Wk.Chg.step kk1 ch2 ⟨.inr (by omega), trivial⟩
  have kk3 := Wk.Chg.step kk2 ch3 ⟨.inr (by omega), trivial⟩
  have kk4 := Wk.Chg.step kk3 ch4 ⟨.inr (by omega), trivial⟩
  have kk5 := Wk.Chg.step kk4 ch5 ⟨.inr (by omega), trivial⟩
  have kk6 := Wk.Chg.step kk5 ch6 ⟨.inr (by omega), trivial⟩
  have kk7 := Wk.Chg.step kk6 ch7 ⟨.inr (by omega), trivial⟩
  have kk8 := Wk.Chg.step kk7 ch8 ⟨.inr (by omega), trivial⟩
  have kk9 := Wk.Chg.step kk8 ch9 ⟨.inr (by omega), trivial⟩
  refine Wk.ret (.slice (some ⟨w.heap.size, 0, none⟩) 8 8) rfl (by kernel_rfl) ?_
  exact ⟨w.heap.size, _, Go.Lib.hid rfl, rfl, Mur.byt_blk _ (Mur.e8_length _) hfin, ⟨by omega, by omega⟩, kk9⟩
end Go.Proofs.YtfhneademopciaaDoor
