/- Arguments read, with what each slice takes. No program in sight. -/
import Derived.Test.YtddabjlhidokaaaOpenC
import Derived.SizedLaws
namespace Mur
open Go Go.RowKit
section
variable {H : Type} {enc : TypeId × Value → H} {P : Program} {w : World} {base : Nat} {spare : Nat → Bool} {held : Bool}
/-- A cell that reads as its type; no slice met takes more than may be. -/
def LeafW (enc : TypeId × Value → H) (P : Program) (w : World) (base : Nat) (spare : Nat → Bool) (held : Bool) (t : TypeId) (v : Value) : Prop := ∃ m y, DataW.trod enc P w base spare held m t [v] = some y ∧ ∀ n ∈ y.1.weights P t, n ≤ reachBytes
theorem LeafW.leaf {t : TypeId} {v : Value} (h : LeafW enc P w base spare held t v) : Leaf enc P w base spare held t v := by
  obtain ⟨m, y, h, _⟩ := h
  exact ⟨m, y, h⟩
theorem mem_weightsAll {e : TypeId} : ∀ {l : List (DataW H)} {d : DataW H}, d ∈ l → ∀ n ∈ d.weights P e, n ∈ DataW.weightsAll P e l
  | x :: l, d, h, n, hn => by
    simp only [DataW.weightsAll, List.mem_append]
    rcases List.mem_cons.1 h with rfl | h
    · exact .inl hn
    · exact .inr (mem_weightsAll h n hn)
theorem leafsS_okW {rec : TypeId → Option (List TypeId)} (hrec : ∀ t ls, rec t = some ls → ∀ fuel cs x, DataW.trod enc P w base spare held fuel t cs = some x → (∀ n ∈ x.1.weights P t, n ≤ reachBytes) → All2 (LeafW enc P w base spare held) ls cs) {m : Nat} {cs : List Value} :
    ∀ (fs : List Field) (o : Nat) (ls : List TypeId), leafsS P rec o fs = some ls → (∀ f ∈ fs, ∃ x, DataW.trod enc P w base spare held m f.type ((cs.drop f.offset).take (P.cellsOf f.type)) = some x ∧ ∀ n ∈ x.1.weights P f.type, n ≤ reachBytes) → cs.length = o + ls.length → All2 (LeafW enc P w base spare held) ls (cs.drop o)
  | [], o, ls, h, _, hl => by
    obtain rfl : ls = [] := by simpa [leafsS] using h.symm
    rw [List.drop_of_length_le (by simp at hl; omega)]
    exact .nil
  | f :: fs, o, ls, h, hf, hl => by
    simp only [leafsS] at h
    split at h
    · rename_i ho
      obtain ⟨l, h1, h2⟩ := Option.bind_eq_some_iff.1 h
      split at h2
      · rename_i hc
        obtain ⟨l', h3, rfl⟩ := Option.map_eq_some_iff.1 h2
        obtain ⟨x, hx, hw⟩ := hf f (by simp)
        have a1 := hrec _ _ h1 _ _ _ hx hw
        rw [List.length_append] at hl
        have a2 := leafsS_okW hrec fs (o + l.length) l' h3 (fun g hg => hf g (by simp [hg])) (by omega)
        rw [ho, hc] at a1
        have e : cs.drop o = (cs.drop o).take l.length ++ cs.drop (o + l.length) := by rw [← List.drop_drop, List.take_append_drop]
        rw [e]
        exact a1.append a2
      · cases h2
    · cases h
theorem leafs_okW : ∀ (d : Nat) (t : TypeId) (ls : List TypeId), leafs P d t = some ls → ∀ fuel cs x, DataW.trod enc P w base spare held fuel t cs = some x → (∀ n ∈ x.1.weights P t, n ≤ reachBytes) → All2 (LeafW enc P w base spare held) ls cs
  | 0, _, _, h, _, _, _, _, _ => by cases h
  | d + 1, t, ls, h, fuel, cs, x, hx, hw => by
    have h0 := h
    unfold leafs at h
    split at h
    · rename_i fs hu
      obtain ⟨l, h1, h2⟩ := Option.bind_eq_some_iff.1 h
      split at h2
      · rename_i hc
        obtain rfl := Option.some.inj h2
        obtain ⟨xs, m, _, rfl, hl, hlen, hf⟩ := DataW.trod_struct hu hx
        have := leafsS_okW (leafs_okW d) (m := m) (cs := cs) fs.toList 0 l h1 (fun f hfm => by
          obtain ⟨i, hi, e⟩ := List.getElem_of_mem hfm
          have hi' : i < xs.length := by rw [hlen]; simpa using hi
          have h3 := hf i f (by rw [← Array.getElem?_toList, List.getElem?_eq_getElem hi, e])
          refine ⟨xs[i], by rw [h3, List.getElem?_eq_getElem hi'], fun n hn => hw n ?_⟩
          simp only [DataW.weights, hu]
          exact DataW.weights_mem_each (j := i) (t := f.type) (d := xs[i].1) (by simp [List.getElem?_eq_getElem hi, e]) (by simp [hi']) n hn) (by omega)
        simpa using this
      · cases h2
    · rename_i n e hu
      obtain ⟨l, h1, h2⟩ := Option.bind_eq_some_iff.1 h
      split at h2
      · rename_i hc
        obtain rfl := Option.some.inj h2
        obtain ⟨xs, m, _, rfl, hl, hlen, hf⟩ := DataW.trod_array hu hx
        have := chunks_ok (R := LeafW enc P w base spare held) (l := l) (cs := cs) n 0 (fun i hi => by
          have h3 := hf i hi
          rw [hc.1] at h3
          rw [Nat.zero_add]
          refine leafs_okW d e l h1 m _ xs[i] (by rw [h3, List.getElem?_eq_getElem (by omega)]) fun n hn => hw n ?_
          simp only [DataW.weights, hu]
          exact mem_weightsAll (List.mem_map.2 ⟨xs[i], List.getElem_mem _, rfl⟩) n hn) (by omega)
        simpa using this
      · cases h2
    · rename_i hu
      split at h
      · obtain rfl := Option.some.inj h
        have hlen : ∃ v, cs = [v] := by
          cases fuel with
          | zero => simp [DataW.trod] at hx
          | succ m =>
            unfold DataW.trod at hx
            rw [hu] at hx
            split at hx <;> simp_all
        obtain ⟨v, rfl⟩ := hlen
        exact .cons ⟨_, _, hx, hw⟩ .nil
      · cases h
    · cases h
theorem leaf_bytW {t e : TypeId} {v : Value} (ht : P.underlying t = some (.slice e)) (he : P.underlying e = some (.int .u8)) (hc : P.cellsOf e = 1) (hb : P.bytesOf e = 1) (h : LeafW enc P w 0 (fun _ => true) true t v) : ∃ A n c l, v = .slice A n c ∧ n ≤ c ∧ c ≤ maxLen ∧ (A = none → c = 0) ∧ Byt w A n l ∧ c ≤ reachBytes := by
  obtain ⟨A, n, c, l, rfl, h1, h2, h3, h4⟩ := leaf_byt ht he hc h.leaf
  refine ⟨A, n, c, l, rfl, h1, h2, h3, h4, ?_⟩
  obtain ⟨m, y, hf, hw⟩ := h
  rcases Deep.open_slice ht hf with ⟨h0, _⟩ | ⟨a, len, cap, m', n', D', Pl, h0, _, hlc, hcm, hm, rfl, hx⟩
  · obtain ⟨-, -, rfl⟩ : A = none ∧ n = 0 ∧ c = 0 := by simpa using h0
    exact Nat.zero_le _
  · obtain ⟨-, rfl, rfl⟩ : A = some a ∧ n = len ∧ c = cap := by simpa using h0
    simp only [if_true] at hm
    subst hm
    have := hw ((((List.range n).map D').length + ((List.range (m' - n)).map fun j => D' (n + j)).length) * P.bytesOf e) (by simp [DataW.weights, ht])
    simp only [List.length_map, List.length_range, hb] at this
    omega
/-- A slice of things laid side by side, read. -/
theorem open_rowsW {t e : TypeId} {v : Value} {d : DataW H} {ps : List MemPlace} (D : Nat) (ls : List TypeId) (ht : P.underlying t = some (.slice e)) (hl : leafs P D e = some ls) (hc : P.cellsOf e = ls.length) (hpos : 0 < ls.length) (hval : v.cells.toList = [v])
    (h : DataW.Trod enc P w 0 (fun _ => true) true t v d ps) (hw : ∀ n ∈ d.weights P t, n ≤ reachBytes) :
    ∃ (A : Option Addr) (n c : Nat) (rows : List (List Value)), v = .slice A n c ∧ n ≤ c ∧ c ≤ maxLen ∧ (A = none → c = 0) ∧ rows.length = n ∧ (∀ r ∈ rows, All2 (LeafW enc P w 0 (fun _ => true) true) ls r) ∧
      (0 < n → ∃ g off, A = some ⟨g, off, none⟩ ∧ ∀ i r, rows[i]? = some r → w.rangeAt g (off + i * ls.length) r) := by
  obtain ⟨fuel, hf⟩ := h
  rw [hval] at hf
  rcases Deep.open_slice ht hf with ⟨h0, _⟩ | ⟨a, len, cap, m, n, D', Pl, h0, _, hlc, hcm, hm, he, hx⟩
  · obtain rfl : v = .slice none 0 0 := by simpa using h0
    exact ⟨none, 0, 0, [], rfl, Nat.le_refl _, by unfold maxLen; omega, fun _ => rfl, rfl, by simp, fun h => absurd h (by omega)⟩
  · obtain rfl : v = .slice (some a) len cap := by simpa using h0
    simp only [if_true] at hm
    subst hm
    obtain ⟨rfl, -⟩ := Prod.mk.inj he
    have hch : ∀ i, i < len → ∃ cs' : List Value, w.cells? 0 (a.add (i * P.cellsOf e)) (P.cellsOf e) = some cs' ∧ All2 (LeafW enc P w 0 (fun _ => true) true) ls cs' := fun i hi => by
      obtain ⟨cs', h1, h2⟩ := hx i (by omega)
      refine ⟨cs', h1, leafs_okW D e ls hl _ _ _ h2 fun q hq => hw q ?_⟩
      simp only [DataW.weights, ht]
      exact List.mem_cons_of_mem _ (List.mem_append_left _ (mem_weightsAll (List.mem_map.2 ⟨i, by simpa using hi, rfl⟩) q hq))
    obtain ⟨R, hR⟩ := Deep.choose_lt (α := List Value) (p := fun i cs' => w.cells? 0 (a.add (i * P.cellsOf e)) (P.cellsOf e) = some cs' ∧ All2 (LeafW enc P w 0 (fun _ => true) true) ls cs') hch
    refine ⟨some a, len, _, (List.range len).map R, rfl, hlc, hcm, (fun h => by cases h), by simp, ?_, fun hp => ?_⟩
    · intro r hr
      obtain ⟨i, hi, rfl⟩ := List.mem_map.1 hr
      exact (hR i (by simpa using hi)).2
    · have hsp : a.spot = none := by
        obtain ⟨h1, h2⟩ := hR 0 hp
        obtain ⟨_, h4, h5⟩ := World.cells?_some h1
        have h6 := h5 0 (by rw [hc]; exact hpos)
        have hl2 : (R 0).length = ls.length := h2.length.symm
        rw [List.getElem?_eq_getElem (by rw [hl2]; exact hpos)] at h6
        have e : (a.add (0 * P.cellsOf e)).add 0 = a := by simp [Addr.add]
        rw [e] at h6
        unfold World.cell? at h6
        split at h6
        · split at h6
          · cases h6
          · rename_i hq
            simpa using hq
        · cases h6
      obtain ⟨g, off, sp⟩ := a
      obtain rfl : sp = none := hsp
      refine ⟨g, off, rfl, fun i r hr j u hu => ?_⟩
      have hi : i < len := by
        have := (List.getElem?_eq_some_iff.1 hr).1
        simpa using this
      obtain rfl : R i = r := by simpa [hi] using hr
      obtain ⟨h1, h2⟩ := hR i hi
      obtain ⟨_, h4, h5⟩ := World.cells?_some h1
      have hj : j < (R i).length := (List.getElem?_eq_some_iff.1 hu).1
      have h6 := h5 j (by omega)
      rw [Addr.add_mid, Addr.add_mid, hc] at h6
      rw [h6, hu]
end
end Mur
