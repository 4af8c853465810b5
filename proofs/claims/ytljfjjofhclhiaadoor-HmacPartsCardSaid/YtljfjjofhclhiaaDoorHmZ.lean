/- append of noughts to a slice of one's own. No program in sight. -/
import Derived.Test.YtljfjjofhclhiaaDoorHm
import Derived.Lib.AppendZerosOnto
namespace Mur
open Go Go.RowKit Wk
section
variable {P : Program} {w : World} {a : Act} {o : Oper}
theorem zeroCells_eq (k : Nat) : Builtin.zeroCells #[.int .u8 0] k = (b8s (List.replicate k 0)).toArray := by
  unfold Builtin.zeroCells
  apply Array.ext
  · simp [b8s]
  · intro i h1 h2
    simp [b8s, Nat.mod_one]
theorem append_zeros8 (s x : Operand) (t tn e : TypeId) (ho : o.op = .call { callee := .builtin .append, args := #[s, x], argTypes := #[t, tn] }) (ht : P.underlying t = some (.slice e)) (kn : IntKind) (htn : P.underlying tn = some (.int kn))
    (hinfo : (P.info? e).map (fun i => (i.zero, i.size, i.bytes)) = some (some (.int .u8 0), 1, 1))
    (base : Nat) (A0 : Option Addr) (n c0 : Nat) (xs : List UInt8) (k : Nat) (hs : a.eval s = .slice A0 n c0) (hx : a.eval x = .int .i64 ((k : Nat) : Int)) (H : Own8 w base e A0 n c0 xs)
    (hbase : base ≤ w.heap.size) (hl : n + k ≤ 140737488355328) (N : Nat) (hN : n + k = N) (zs : List UInt8) (hz : xs ++ List.replicate k 0 = zs) :
    ∃ v1 w1, (execOp a.eval o).run P w = .ok (.value v1) w1 ∧ ∃ A1 c1, v1 = .slice A1 N c1 ∧ Own8 w1 base e A1 N c1 zs ∧ Chg (blk (.slice A0 n c0)) w w1 ∧ (∀ q, (Value.slice A1 N c1).ownBlock = some q → (Value.slice A0 n c0).ownBlock = some q ∨ q = w.heap.size) := by
  subst hN hz
  obtain ⟨i0, hi, hzz⟩ := Option.map_eq_some_iff.1 hinfo
  simp only [Prod.mk.injEq] at hzz
  obtain ⟨hz0, hz1, hz2⟩ := hzz
  have hxl : xs.length = n := H.byt.1
  have hw : IntKind.i64.wrap (k : Int) = k := by rw [IntKind.wrap_i64]; omega
  have grow : c0 < n + k → 0 < k → (∃ olds : List Value, olds = b8s xs ∧ (Builtin.firstCells i0.size n (.slice A0 n c0)).run P w.drew = .ok olds.toArray w.drew) →
      ∃ w1, (Builtin.append_ #[t, tn] o.type #[.slice A0 n c0, .int .i64 k]).run P w = .ok (.slice (some ⟨w.heap.size, 0, none⟩) (n + k) (grownCap w (n + k) c0 e)) w1 ∧ Own8 w1 base e (some ⟨w.heap.size, 0, none⟩) (n + k) (grownCap w (n + k) c0 e) (xs ++ List.replicate k 0) ∧ Chg [] w w1 := by
    rintro hg hk ⟨olds, rfl, hold⟩
    refine ⟨_, Lib.run_append_grow_zeros (P := P) w t tn o.type e i0 (.int .u8 0) .i64 kn ht htn hi hz0 A0 n c0 (b8s xs) hold k hk (by omega) hg (by omega) (by rw [hz2]; omega) (by
      rw [hz2]
      exact growslice_fits (bytes := 1) (by omega) (by omega)), ?_, ?_⟩
    · have hge := grownCap_ge w (n + k) c0 e
      have hcm : grownCap w (n + k) c0 e ≤ maxLen := grownCap_le_maxLen w (n + k) c0 e (by unfold maxLen; omega)
      have hz8 : (Value.int .u8 0).cells = #[.int .u8 0] := rfl
      refine own8 ⟨by rw [b8s_length, List.length_append, hxl, List.length_replicate]; omega, .inr ⟨w.heap.size, _, _, rfl, hbase, heap_alloc_new w.drew _, hge, hcm, ?_, ?_⟩⟩
      · rw [hz8, zeroCells_eq, zeroCells_eq]
        simp [b8s_length, hxl]
        omega
      · rw [hz8, zeroCells_eq, zeroCells_eq]
        simp only [Array.toList_append, b8s_append, List.append_assoc]
        rw [← List.append_assoc]
        have hlen : (b8s xs ++ b8s (List.replicate k 0)).length = (n + k) * 1 := by simp [b8s_length, hxl]
        rw [← hlen]
        exact List.take_left
    · exact ⟨rfl, rfl, rfl, by simp, fun q hq _ => Below.heap_alloc w.drew _ q hq⟩
  have fin : ∀ v1 w1, (Builtin.append_ #[t, tn] o.type #[.slice A0 n c0, .int .i64 k]).run P w = .ok v1 w1 → (execOp a.eval o).run P w = .ok (.value v1) w1 := by
    intro v1 w1 hr
    unfold execOp
    simp only [ho, resolve, invoke, builtin, Sem.run_bind, Sem.run_pure, Result.andThen_ok, List.map_toArray, List.map_cons, List.map_nil, hs, hx, hr]
  have same : k = 0 → (Builtin.append_ #[t, tn] o.type #[.slice A0 n c0, .int .i64 k]).run P w = .ok (.slice A0 (n + k) c0) w := by
    rintro rfl
    have hnc := H.nc
    have hw0 : IntKind.i64.wrap 0 = 0 := rfl
    cases A0 with
    | none => simp [Builtin.append_, run_underlying ht, run_underlying htn, Go.sizeOf, typeInfo, hi, asInt, asIntOf, hnc, hw0]
    | some ad => simp [Builtin.append_, run_underlying ht, run_underlying htn, Go.sizeOf, typeInfo, hi, asInt, asIntOf, hnc, hw0, storeCells]
  rcases Nat.eq_zero_or_pos k with h0 | hk
  · refine ⟨_, w, fin _ _ (same h0), A0, c0, rfl, ?_, (Chg.refl w).more (by simp), fun q hq => .inl ?_⟩
    · subst h0
      simpa using H
    · subst h0
      exact hq
  rcases H.own.2 with ⟨e0, h2⟩ | ⟨g, cap, cur, e0, hbg, hg, hnc, hcm, hcs, htake⟩
  · injection e0 with e1 e2 e3
    subst e1
    subst e3
    have hxs : xs = [] := List.eq_nil_of_length_eq_zero (by omega)
    obtain ⟨w1, h3, h4, h5⟩ := grow (by omega) hk ⟨[], by rw [hxs]; rfl, by simp [Builtin.firstCells]⟩
    exact ⟨_, w1, fin _ _ h3, _, _, rfl, h4, h5.more (by simp), fun q hq => .inr (by simpa [Value.ownBlock] using hq.symm)⟩
  · injection e0 with e1 e2 e3
    subst e1
    subst e3
    by_cases hroom : n + k ≤ c0
    · have hnz : ¬ k = 0 := by omega
      have hst := run_storeCells_at P g n e (b8s (List.replicate k 0)) 0 cur w hg (by rw [b8s_length, List.length_replicate]; omega) (b8s_one _)
      simp only [Nat.add_zero] at hst
      have hadd : (⟨g, 0, none⟩ : Addr).add n = ⟨g, n, none⟩ := by rw [Addr.add_mid]; simp
      have hz8 : (Value.int .u8 0).cells = #[.int .u8 0] := rfl
      have hneg : ¬ ((k : Int) < 0) := by omega
      have hbig : ¬ (281474976710656 < (k : Int)) := by omega
      have hr : (Builtin.append_ #[t, tn] o.type #[.slice (some ⟨g, 0, none⟩) n c0, .int .i64 k]).run P w = .ok (.slice (some ⟨g, 0, none⟩) (n + k) c0) (w.setRow g (cur.toList.take n ++ b8s (List.replicate k 0) ++ cur.toList.drop (n + (b8s (List.replicate k 0)).length)).toArray) := by
        simp [Builtin.append_, run_underlying ht, run_underlying htn, Go.sizeOf, typeInfo, zeroValue, hi, hz0, hz1, hz2, asInt, asIntOf, hw, hroom, hneg, hbig, hnz, hadd, hz8, zeroCells_eq, hst]
      refine ⟨_, _, fin _ _ hr, _, _, rfl, own8 ⟨by rw [b8s_length, List.length_append, hxl, List.length_replicate]; omega, .inr ⟨g, c0, _, rfl, hbg, setRow_heap w g cur _ e _ hg, hroom, hcm, ?_, ?_⟩⟩, ⟨rfl, rfl, rfl, by simp [World.setRow], fun q _ hq => setRow_other w g q _ (fun e => hq.mem g (by simp [blk, Value.ownBlock]) e)⟩, fun q hq => .inl hq⟩
      · simp only [List.size_toArray, List.length_append, List.length_take, List.length_drop, Array.length_toList, b8s_length, List.length_replicate]
        omega
      · have ht' : cur.toList.take n = b8s xs := by simpa using htake
        rw [ht']
        simp only [b8s_append]
        have hlen : (b8s xs ++ b8s (List.replicate k 0)).length = (n + k) * 1 := by simp [b8s_length, hxl]
        rw [← hlen]
        exact List.take_left
    · have holds : ∀ j u, (b8s xs)[j]? = some u → w.drew.cell? ((⟨g, 0, none⟩ : Addr).add j) = some u := fun j u hu => H.own.cells (g := g) rfl j u hu
      obtain ⟨w1, h3, h4, h5⟩ := grow (by omega) hk ⟨_, rfl, run_firstCells_some (P := P) w.drew i0.size n ⟨g, 0, none⟩ n c0 (b8s xs) (by rw [b8s_length, hxl, hz1]; omega) holds⟩
      exact ⟨_, w1, fin _ _ h3, _, _, rfl, h4, h5.more (by simp), fun q hq => .inr (by simpa [Value.ownBlock] using hq.symm)⟩
end
end Mur
