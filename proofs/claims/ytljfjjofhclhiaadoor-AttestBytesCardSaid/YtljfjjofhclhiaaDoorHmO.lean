/- Arguments that come in: bytes, slices of slices of bytes, rows of bytes. No program in sight. -/
import Derived.Test.YtljfjjofhclhiaaDoorRow
import Derived.Test.YtljfjjofhclhiaaDoorFlat
import Derived.Test.YtljfjjofhclhiaaDoorHm
namespace Mur
open Go Go.RowKit Go.WideShapes Go.ChangeShapes
section
variable {H : Type} {enc : TypeId × Value → H} {P : Program} {W : World}
theorem leaf_byt {t e : TypeId} {v : Value} (ht : P.underlying t = some (.slice e)) (he : P.underlying e = some (.int .u8)) (hc : P.cellsOf e = 1) (h : Leaf enc P W 0 (fun _ => true) true t v) : ∃ A n c l, v = .slice A n c ∧ n ≤ c ∧ c ≤ maxLen ∧ (A = none → c = 0) ∧ Byt W A n l := by
  obtain ⟨m, y, hf⟩ := h
  rcases open_ints ht he hc hf with ⟨h0, _⟩ | ⟨a, len, cap, zs, h0, _, hlc, hcm, hlen, _, hcell, hwf⟩
  · obtain rfl : v = .slice none 0 0 := by simpa using h0
    exact ⟨none, 0, 0, [], rfl, Nat.le_refl _, by unfold maxLen; omega, fun _ => rfl, Byt.nil _ _⟩
  · obtain rfl : v = .slice (some a) len cap := by simpa using h0
    simp only [if_true] at hlen
    refine ⟨some a, len, cap, (zs.take len).map (fun z => UInt8.ofNat z.toNat), rfl, hlc, hcm, (fun h => by cases h), (by simp; omega), fun hp => ?_⟩
    obtain ⟨g, off, rfl, hc2⟩ := ints_at hcell (by omega)
    refine ⟨g, off, rfl, fun j hj => ?_⟩
    rw [hc2 j (by omega)]
    have hr := range_u8 hwf j
    have hjz : j < zs.length := by omega
    simp only [List.getElem?_eq_getElem hjz, Option.getD_some] at hr
    simp [List.getD_eq_getElem?_getD, hj, hjz]
    omega
/-- An array, or a struct, that comes in: its leaves. -/
theorem open_agg {t : TypeId} {ls : List TypeId} {W : World} {v : Value} {d : DataW H} {ps : List MemPlace} (D : Nat) (hu : (∃ n e, P.underlying t = some (.array n e)) ∨ ∃ fs, P.underlying t = some (.struct fs)) (hl : leafs P D t = some ls)
    (hval : ∃ r b0, Value.okWide P W r b0 t v) (h : DataW.Trod enc P W 0 (fun _ => true) true t v d ps) : ∃ cs, v = .agg cs ∧ All2 (Leaf enc P W 0 (fun _ => true) true) ls cs.toList := by
  obtain ⟨fuel, hf⟩ := h
  obtain ⟨r, b0, hok⟩ := hval
  obtain ⟨cs, rfl⟩ : ∃ cs, v = .agg cs := by
    unfold Value.okWide at hok
    rcases hu with ⟨n, e, hu⟩ | ⟨fs, hu⟩
    · simp only [hu] at hok
      obtain ⟨cs, h1, _⟩ := hok
      exact ⟨cs, h1⟩
    · simp only [hu] at hok
      obtain ⟨cs, h1, _⟩ := hok
      exact ⟨cs, h1⟩
  exact ⟨cs, rfl, leafs_ok D t ls hl _ _ _ hf⟩
theorem open_segs {t s e : TypeId} {v : Value} {d : DataW H} {ps : List MemPlace} (ht : P.underlying t = some (.slice s)) (hs : P.underlying s = some (.slice e)) (he : P.underlying e = some (.int .u8)) (hc : P.cellsOf e = 1) (hl : leafs P 2 s = some [s]) (hcs : P.cellsOf s = 1)
    (hval : ∃ r b0, Value.okWide P W r b0 t v) (h : DataW.Trod enc P W 0 (fun _ => true) true t v d ps) :
    ∃ A n c L, v = .slice A n c ∧ n ≤ c ∧ c ≤ maxLen ∧ Segs W A n L := by
  obtain ⟨A, n, c, rows, rfl, hnc, hcm, _, hlen, hrows, hat⟩ := open_rows 2 _ ht hl hcs (by simp) (slice_cells ht hval) h
  have key : ∀ rows : List (List Value), (∀ r ∈ rows, All2 (Leaf enc P W 0 (fun _ => true) true) [s] r) → ∃ L : List Seg, rows = L.map (fun x => [x.v]) ∧ ∀ x ∈ L, SegOk W x := by
    intro rows
    induction rows with
    | nil => exact fun _ => ⟨[], rfl, by simp⟩
    | cons r rows ih =>
      intro hr
      obtain ⟨L, rfl, h1⟩ := ih fun x hx => hr x (by simp [hx])
      rcases hr r (by simp) with _ | ⟨h0, hx⟩
      cases hx
      obtain ⟨A, n, c, l, rfl, h3, h4, h5, h6⟩ := leaf_byt hs he hc h0
      exact ⟨⟨A, n, c, l⟩ :: L, rfl, by
        intro x hx
        rcases List.mem_cons.1 hx with rfl | hx
        · exact ⟨h3, h5, h6, h4⟩
        · exact h1 x hx⟩
  obtain ⟨L, rfl, h1⟩ := key rows hrows
  refine ⟨A, n, c, L, rfl, hnc, hcm, ⟨by simpa using hlen, h1, fun hn => ?_⟩⟩
  obtain ⟨g, off, e, hr⟩ := hat hn
  refine ⟨g, off, e, fun j x hj => ?_⟩
  have := hr j [x.v] (by simp [hj]) 0 _ rfl
  simpa using this
/-- A row of n bytes that comes in. -/
theorem leaf_u8 {t : TypeId} {v : Value} (ht : P.underlying t = some (.int .u8)) {w : World} (h : Leaf enc P w 0 (fun _ => true) true t v) : ∃ b : UInt8, v = .int .u8 (b.toNat : Int) := by
  obtain ⟨z, rfl, hwf⟩ := leaf_int ht h
  have h1 : IntKind.u8.min = 0 := by decide
  have h2 : IntKind.u8.max = 255 := by decide
  simp only [Lit.wf, h1, h2, Bool.and_eq_true, decide_eq_true_eq] at hwf
  exact ⟨UInt8.ofNat z.toNat, by simp; omega⟩
theorem leaf_u8s {t : TypeId} (ht : P.underlying t = some (.int .u8)) {w : World} : ∀ (n : Nat) (cs : List Value), All2 (Leaf enc P w 0 (fun _ => true) true) (List.replicate n t) cs → ∃ l : List UInt8, l.length = n ∧ cs = b8s l
  | 0, cs, h => by
    cases h
    exact ⟨[], rfl, rfl⟩
  | n + 1, cs, h => by
    rw [List.replicate_succ] at h
    rcases h with _ | ⟨h0, h⟩
    obtain ⟨b, rfl⟩ := leaf_u8 ht h0
    obtain ⟨l, h1, rfl⟩ := leaf_u8s ht n _ h
    exact ⟨b :: l, by simp [h1], rfl⟩
theorem open_row8 {t e : TypeId} {n : Nat} {W : World} {v : Value} {d : DataW H} {ps : List MemPlace} (hu : P.underlying t = some (.array n e)) (he : P.underlying e = some (.int .u8)) (hl : leafs P 2 t = some (List.replicate n e)) (hval : ∃ r b0, Value.okWide P W r b0 t v)
    (h : DataW.Trod enc P W 0 (fun _ => true) true t v d ps) : ∃ l : List UInt8, l.length = n ∧ v = .agg (b8s l).toArray := by
  obtain ⟨cs, rfl, ha⟩ := open_agg 2 (.inl ⟨_, _, hu⟩) hl hval h
  obtain ⟨l, h1, h2⟩ := leaf_u8s he n _ ha
  exact ⟨l, h1, by rw [← h2]⟩
end
end Mur
namespace Go.Proofs.YtljfjjofhclhiaaDoor
theorem leafs_b : Mur.leafs Tryd.prog 2 22 = some [22] := by kernel_rfl
theorem cellsB : Tryd.prog.cellsOf 22 = 1 := by kernel_rfl
theorem leafs_d : Mur.leafs Tryd.prog 2 25 = some (List.replicate 32 5) := by kernel_rfl
end Go.Proofs.YtljfjjofhclhiaaDoor
