/- Slices of bytes that come in, as arguments or in cells. No program in sight. -/
import Derived.Test.YtddabjlhidokaaaBytes
import Derived.Test.YtddabjlhidokaaaFlat
import Derived.Test.YtddabjlhidokaaaPost
namespace Mur
open Go Go.RowKit Go.WideShapes Go.ChangeShapes
section
variable {H : Type} {enc : TypeId × Value → H} {P : Program} {W : World}
theorem leaf_byt {t e : TypeId} {v : Value} (ht : P.underlying t = some (.slice e)) (he : P.underlying e = some (.int .u8)) (hc : P.cellsOf e = 1) (h : Leaf enc P W 0 (fun _ => true) true t v) : ∃ A n c l, v = .slice A n c ∧ n ≤ c ∧ c ≤ maxLen ∧ (A = none → c = 0) ∧ Byt W A n l := by
  obtain ⟨m, y, hf⟩ := h
  rcases open_ints ht he hc hf with ⟨h0, _⟩ | ⟨a, len, cap, zs, h0, _, hlc, hcm, hlen, _, hcell, hwf⟩
  · obtain rfl : v = .slice none 0 0 := by simpa using h0
    exact ⟨none, 0, 0, [], rfl, Nat.le_refl _, by unfold maxLen; omega, fun _ => rfl, Byt.nil _ _⟩
  · obtain rfl : v = .slice (some a) len cap := by simpa using h0
    simp only [if_true] at hlen
    refine ⟨some a, len, cap, (zs.take len).map (fun z => UInt8.ofNat z.toNat), rfl, hlc, hcm, (fun h => by cases h), (by simp; omega), fun hp => ?_⟩
    obtain ⟨g, off, rfl, hc2⟩ := ints_at hcell (by omega)
    refine ⟨g, off, rfl, fun j hj => ?_⟩
    rw [hc2 j (by omega)]
    have hr := range_u8 hwf j
    have hjz : j < zs.length := by omega
    simp only [List.getElem?_eq_getElem hjz, Option.getD_some] at hr
    simp [List.getD_eq_getElem?_getD, hj, hjz]
    omega
/-- Bytes that come in. -/
theorem open_byt {t e : TypeId} {W : World} {v : Value} {d : DataW H} {ps : List MemPlace} (ht : P.underlying t = some (.slice e)) (he : P.underlying e = some (.int .u8)) (hc : P.cellsOf e = 1) (hval : ∃ r b0, Value.okWide P W r b0 t v)
    (h : DataW.Trod enc P W 0 (fun _ => true) true t v d ps) : ∃ A n c l, v = .slice A n c ∧ n ≤ c ∧ c ≤ maxLen ∧ (A = none → c = 0) ∧ Byt W A n l := by
  obtain ⟨fuel, hf⟩ := h
  have hv : v.cells.toList = [v] := by
    obtain ⟨r, b0, hok⟩ := hval
    cases v <;> first | rfl | (exfalso; simp [Value.okWide, ht, Cell.okWide, Cell.ok] at hok)
  rw [hv] at hf
  exact leaf_byt ht he hc ⟨_, _, hf⟩
/-- An array, or a struct, that comes in: its leaves. -/
theorem open_agg {t : TypeId} {ls : List TypeId} {W : World} {v : Value} {d : DataW H} {ps : List MemPlace} (D : Nat) (hu : (∃ n e, P.underlying t = some (.array n e)) ∨ ∃ fs, P.underlying t = some (.struct fs)) (hl : leafs P D t = some ls)
    (hval : ∃ r b0, Value.okWide P W r b0 t v) (h : DataW.Trod enc P W 0 (fun _ => true) true t v d ps) : ∃ cs, v = .agg cs ∧ All2 (Leaf enc P W 0 (fun _ => true) true) ls cs.toList := by
  obtain ⟨fuel, hf⟩ := h
  obtain ⟨r, b0, hok⟩ := hval
  obtain ⟨cs, rfl⟩ : ∃ cs, v = .agg cs := by
    unfold Value.okWide at hok
    rcases hu with ⟨n, e, hu⟩ | ⟨fs, hu⟩
    · simp only [hu] at hok
      obtain ⟨cs, h1, _⟩ := hok
      exact ⟨cs, h1⟩
    · simp only [hu] at hok
      obtain ⟨cs, h1, _⟩ := hok
      exact ⟨cs, h1⟩
  exact ⟨cs, rfl, leafs_ok D t ls hl _ _ _ hf⟩
end
end Mur
