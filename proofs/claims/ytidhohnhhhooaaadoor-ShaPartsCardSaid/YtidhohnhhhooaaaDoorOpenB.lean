/- Slices of bytes, and slices of such, that come in. -/
import Derived.Test.YtidhohnhhhooaaaDoorRow
import Derived.Test.YtidhohnhhhooaaaDoorFlat
import Derived.Test.YtidhohnhhhooaaaDoorParts
namespace Mur
open Go Go.RowKit Go.WideShapes Go.ChangeShapes
section
variable {H : Type} {enc : TypeId × Value → H} {P : Program} {W : World}
theorem leaf_byt {t e : TypeId} {v : Value} (ht : P.underlying t = some (.slice e)) (he : P.underlying e = some (.int .u8)) (hc : P.cellsOf e = 1) (h : Leaf enc P W 0 (fun _ => true) true t v) : ∃ A n c l, v = .slice A n c ∧ n ≤ c ∧ c ≤ maxLen ∧ (A = none → c = 0) ∧ Byt W A n l := by
  obtain ⟨m, y, hf⟩ := h
  rcases open_ints ht he hc hf with ⟨h0, _⟩ | ⟨a, len, cap, zs, h0, _, hlc, hcm, hlen, _, hcell, hwf⟩
  · obtain rfl : v = .slice none 0 0 := by simpa using h0
    exact ⟨none, 0, 0, [], rfl, Nat.le_refl _, by unfold maxLen; omega, fun _ => rfl, Byt.nil _ _⟩
  · obtain rfl : v = .slice (some a) len cap := by simpa using h0
    simp only [if_true] at hlen
    refine ⟨some a, len, cap, (zs.take len).map (fun z => UInt8.ofNat z.toNat), rfl, hlc, hcm, (fun h => by cases h), (by simp; omega), fun hp => ?_⟩
    obtain ⟨g, off, rfl, hc2⟩ := ints_at hcell (by omega)
    refine ⟨g, off, rfl, fun j hj => ?_⟩
    rw [hc2 j (by omega)]
    have hr := range_u8 hwf j
    have hjz : j < zs.length := by omega
    simp only [List.getElem?_eq_getElem hjz, Option.getD_some] at hr
    simp [List.getD_eq_getElem?_getD, hj, hjz]
    omega
theorem open_segs {t s e : TypeId} {v : Value} {d : DataW H} {ps : List MemPlace} (ht : P.underlying t = some (.slice s)) (hs : P.underlying s = some (.slice e)) (he : P.underlying e = some (.int .u8)) (hc : P.cellsOf e = 1) (hl : leafs P 2 s = some [s]) (hcs : P.cellsOf s = 1)
    (hval : ∃ r b0, Value.okWide P W r b0 t v) (h : DataW.Trod enc P W 0 (fun _ => true) true t v d ps) :
    ∃ A n c L, v = .slice A n c ∧ n ≤ c ∧ c ≤ maxLen ∧ Segs W A n L ∧ ∀ x ∈ L, x.n ≤ maxLen := by
  obtain ⟨A, n, c, rows, rfl, hnc, hcm, _, hlen, hrows, hat⟩ := open_rows 2 _ ht hl hcs (by simp) (slice_cells ht hval) h
  have key : ∀ rows : List (List Value), (∀ r ∈ rows, All2 (Leaf enc P W 0 (fun _ => true) true) [s] r) → ∃ L : List Seg, rows = L.map (fun x => [x.v]) ∧ (∀ x ∈ L, SegOk W x) ∧ ∀ x ∈ L, x.n ≤ maxLen := by
    intro rows
    induction rows with
    | nil => exact fun _ => ⟨[], rfl, by simp, by simp⟩
    | cons r rows ih =>
      intro hr
      obtain ⟨L, rfl, h1, h2⟩ := ih fun x hx => hr x (by simp [hx])
      rcases hr r (by simp) with _ | ⟨h0, hx⟩
      cases hx
      obtain ⟨A, n, c, l, rfl, h3, h4, h5, h6⟩ := leaf_byt hs he hc h0
      exact ⟨⟨A, n, c, l⟩ :: L, rfl, by
        intro x hx
        rcases List.mem_cons.1 hx with rfl | hx
        · exact ⟨h3, h5, h6⟩
        · exact h1 x hx, by
        intro x hx
        rcases List.mem_cons.1 hx with rfl | hx
        · exact Nat.le_trans h3 h4
        · exact h2 x hx⟩
  obtain ⟨L, rfl, h1, h2⟩ := key rows hrows
  refine ⟨A, n, c, L, rfl, hnc, hcm, ⟨by simpa using hlen, h1, fun hn => ?_⟩, h2⟩
  obtain ⟨g, off, e, hr⟩ := hat hn
  refine ⟨g, off, e, fun j x hj => ?_⟩
  have := hr j [x.v] (by simp [hj]) 0 _ rfl
  simpa using this
end
end Mur
