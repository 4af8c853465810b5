/- Arguments read: values of numbers, bools and slices laid side by side; slices of such. No program in sight. -/
import Derived.OpenShut
import Derived.Deep.Slices
import Derived.Deep.MidRow
import Derived.ProofKit
import Derived.WalkKit
namespace Mur
open Go Go.RowKit
inductive All2 {α β : Type} (R : α → β → Prop) : List α → List β → Prop
  | nil : All2 R [] []
  | cons {a b l m} : R a b → All2 R l m → All2 R (a :: l) (b :: m)
theorem All2.length {α β : Type} {R : α → β → Prop} : ∀ {l : List α} {m : List β}, All2 R l m → l.length = m.length
  | _, _, .nil => rfl
  | _, _, .cons _ h => by simp [h.length]
theorem All2.append {α β : Type} {R : α → β → Prop} : ∀ {l l' : List α} {m m' : List β}, All2 R l m → All2 R l' m' → All2 R (l ++ l') (m ++ m')
  | _, _, _, _, .nil, k => k
  | _, _, _, _, .cons r h, k => .cons r (h.append k)
theorem All2.imp {α β : Type} {R R' : α → β → Prop} (hr : ∀ a b, R a b → R' a b) : ∀ {l : List α} {m : List β}, All2 R l m → All2 R' l m
  | _, _, .nil => .nil
  | _, _, .cons r h => .cons (hr _ _ r) (h.imp hr)
section
variable (P : Program)
def leafsS (rec : TypeId → Option (List TypeId)) : Nat → List Field → Option (List TypeId)
  | _, [] => some []
  | o, f :: fs => if f.offset = o then (rec f.type).bind fun l => if P.cellsOf f.type = l.length then (leafsS rec (o + l.length) fs).map (l ++ ·) else none else none
/-- The types of a type's cells. -/
def leafs : Nat → TypeId → Option (List TypeId)
  | 0, _ => none
  | d + 1, t => match P.underlying t with
    | some (.struct fs) => (leafsS P (leafs d) 0 fs.toList).bind fun l => if P.cellsOf t = l.length then some l else none
    | some (.array n e) => (leafs d e).bind fun l => if P.cellsOf e = l.length ∧ P.cellsOf t = n * l.length then some (List.replicate n l).flatten else none
    | some _ => if P.cellsOf t = 1 then some [t] else none
    | none => none
end
section
variable {H : Type} {enc : TypeId × Value → H} {P : Program} {w : World} {base : Nat} {spare : Nat → Bool} {held : Bool}
/-- A cell that reads as its type. -/
def Leaf (enc : TypeId × Value → H) (P : Program) (w : World) (base : Nat) (spare : Nat → Bool) (held : Bool) (t : TypeId) (v : Value) : Prop := ∃ m y, DataW.trod enc P w base spare held m t [v] = some y
theorem leaf_int {t : TypeId} {k : IntKind} {v : Value} (ht : P.underlying t = some (.int k)) (h : Leaf enc P w base spare held t v) : ∃ n, v = .int k n ∧ (Lit.int k n).wf = true := by
  obtain ⟨m, y, h⟩ := h
  obtain ⟨n, e, _, hw⟩ := DataW.trod_int ht h
  exact ⟨n, by simpa using e, hw⟩
theorem leaf_bool {t : TypeId} {v : Value} (ht : P.underlying t = some .bool) (h : Leaf enc P w base spare held t v) : ∃ b, v = .bool b := by
  obtain ⟨m, y, h⟩ := h
  obtain ⟨b, e, _⟩ := DataW.trod_bool ht h
  exact ⟨b, by simpa using e⟩
theorem leafsS_ok {rec : TypeId → Option (List TypeId)} (hrec : ∀ t ls, rec t = some ls → ∀ fuel cs x, DataW.trod enc P w base spare held fuel t cs = some x → All2 (Leaf enc P w base spare held) ls cs) {m : Nat} {cs : List Value} :
    ∀ (fs : List Field) (o : Nat) (ls : List TypeId), leafsS P rec o fs = some ls → (∀ f ∈ fs, ∃ x, DataW.trod enc P w base spare held m f.type ((cs.drop f.offset).take (P.cellsOf f.type)) = some x) → cs.length = o + ls.length → All2 (Leaf enc P w base spare held) ls (cs.drop o)
  | [], o, ls, h, _, hl => by
    obtain rfl : ls = [] := by simpa [leafsS] using h.symm
    rw [List.drop_of_length_le (by simp at hl; omega)]
    exact .nil
  | f :: fs, o, ls, h, hf, hl => by
    simp only [leafsS] at h
    split at h
    · rename_i ho
      obtain ⟨l, h1, h2⟩ := Option.bind_eq_some_iff.1 h
      split at h2
      · rename_i hc
        obtain ⟨l', h3, rfl⟩ := Option.map_eq_some_iff.1 h2
        obtain ⟨x, hx⟩ := hf f (by simp)
        have a1 := hrec _ _ h1 _ _ _ hx
        rw [List.length_append] at hl
        have a2 := leafsS_ok hrec fs (o + l.length) l' h3 (fun g hg => hf g (by simp [hg])) (by omega)
        rw [ho, hc] at a1
        have e : cs.drop o = (cs.drop o).take l.length ++ cs.drop (o + l.length) := by rw [← List.drop_drop, List.take_append_drop]
        rw [e]
        exact a1.append a2
      · cases h2
    · cases h
theorem chunks_ok {R : TypeId → Value → Prop} {l : List TypeId} {cs : List Value} : ∀ (n o : Nat), (∀ i, i < n → All2 R l ((cs.drop (o + i * l.length)).take l.length)) → cs.length = o + n * l.length → All2 R (List.replicate n l).flatten (cs.drop o)
  | 0, o, _, hl => by
    rw [List.drop_of_length_le (by simp at hl; omega)]
    exact .nil
  | n + 1, o, h, hl => by
    have a1 := h 0 (by omega)
    rw [Nat.zero_mul, Nat.add_zero] at a1
    have a2 := chunks_ok (R := R) (l := l) (cs := cs) n (o + l.length) (fun i hi => by
      have := h (i + 1) (by omega)
      rwa [show o + (i + 1) * l.length = o + l.length + i * l.length by rw [Nat.add_mul]; omega] at this) (by rw [hl, Nat.add_mul]; omega)
    rw [List.replicate_succ, List.flatten_cons]
    have e : cs.drop o = (cs.drop o).take l.length ++ cs.drop (o + l.length) := by rw [← List.drop_drop, List.take_append_drop]
    rw [e]
    exact a1.append a2
theorem leafs_ok : ∀ (d : Nat) (t : TypeId) (ls : List TypeId), leafs P d t = some ls → ∀ fuel cs x, DataW.trod enc P w base spare held fuel t cs = some x → All2 (Leaf enc P w base spare held) ls cs
  | 0, _, _, h, _, _, _, _ => by cases h
  | d + 1, t, ls, h, fuel, cs, x, hx => by
    unfold leafs at h
    split at h
    · rename_i fs hu
      obtain ⟨l, h1, h2⟩ := Option.bind_eq_some_iff.1 h
      split at h2
      · rename_i hc
        obtain rfl := Option.some.inj h2
        obtain ⟨xs, m, _, _, hl, hlen, hf⟩ := DataW.trod_struct hu hx
        have := leafsS_ok (leafs_ok d) (m := m) (cs := cs) fs.toList 0 l h1 (fun f hfm => by
          obtain ⟨i, hi, e⟩ := List.getElem_of_mem hfm
          have hi' : i < xs.length := by rw [hlen]; simpa using hi
          have h3 := hf i f (by rw [← Array.getElem?_toList, List.getElem?_eq_getElem hi, e])
          exact ⟨xs[i], by rw [h3, List.getElem?_eq_getElem hi']⟩) (by omega)
        simpa using this
      · cases h2
    · rename_i n e hu
      obtain ⟨l, h1, h2⟩ := Option.bind_eq_some_iff.1 h
      split at h2
      · rename_i hc
        obtain rfl := Option.some.inj h2
        obtain ⟨xs, m, _, _, hl, hlen, hf⟩ := DataW.trod_array hu hx
        have := chunks_ok (R := Leaf enc P w base spare held) (l := l) (cs := cs) n 0 (fun i hi => by
          have h3 := hf i hi
          rw [hc.1] at h3
          rw [Nat.zero_add]
          exact leafs_ok d e l h1 m _ xs[i] (by rw [h3, List.getElem?_eq_getElem (by omega)])) (by omega)
        simpa using this
      · cases h2
    · rename_i hu
      split at h
      · obtain rfl := Option.some.inj h
        have hlen : ∃ v, cs = [v] := by
          cases fuel with
          | zero => simp [DataW.trod] at hx
          | succ m =>
            unfold DataW.trod at hx
            rw [hu] at hx
            split at hx <;> simp_all
        obtain ⟨v, rfl⟩ := hlen
        exact .cons ⟨_, _, hx⟩ .nil
      · cases h
    · cases h
theorem rows_decode {α : Type} (enc' : α → List Value) : ∀ rows : List (List Value), (∀ r ∈ rows, ∃ p, r = enc' p) → ∃ l : List α, rows = l.map enc'
  | [], _ => ⟨[], rfl⟩
  | r :: rows, h => by
    obtain ⟨p, rfl⟩ := h r (by simp)
    obtain ⟨l, rfl⟩ := rows_decode enc' rows fun x hx => h x (by simp [hx])
    exact ⟨p :: l, rfl⟩
theorem slice_cells {t e : TypeId} {W : World} {v : Value} (ht : P.underlying t = some (.slice e)) (hval : ∃ r b0, Value.okWide P W r b0 t v) : v.cells.toList = [v] := by
  obtain ⟨r, b0, hok⟩ := hval
  cases v <;> first | rfl | (exfalso; simp [Value.okWide, ht, Cell.okWide, Cell.ok] at hok)
/-- A slice of things laid side by side, read. -/
theorem open_rows {t e : TypeId} {v : Value} {d : DataW H} {ps : List MemPlace} (D : Nat) (ls : List TypeId) (ht : P.underlying t = some (.slice e)) (hl : leafs P D e = some ls) (hc : P.cellsOf e = ls.length) (hpos : 0 < ls.length) (hval : v.cells.toList = [v])
    (h : DataW.Trod enc P w 0 (fun _ => true) true t v d ps) :
    ∃ (A : Option Addr) (n c : Nat) (rows : List (List Value)), v = .slice A n c ∧ n ≤ c ∧ c ≤ maxLen ∧ (A = none → c = 0) ∧ rows.length = n ∧ (∀ r ∈ rows, All2 (Leaf enc P w 0 (fun _ => true) true) ls r) ∧
      (0 < n → ∃ g off, A = some ⟨g, off, none⟩ ∧ ∀ i r, rows[i]? = some r → w.rangeAt g (off + i * ls.length) r) := by
  obtain ⟨fuel, hf⟩ := h
  rw [hval] at hf
  rcases Deep.open_slice ht hf with ⟨h0, _⟩ | ⟨a, len, cap, m, n, D', Pl, h0, _, hlc, hcm, hm, _, hx⟩
  · obtain rfl : v = .slice none 0 0 := by simpa using h0
    exact ⟨none, 0, 0, [], rfl, Nat.le_refl _, by unfold maxLen; omega, fun _ => rfl, rfl, by simp, fun h => absurd h (by omega)⟩
  · obtain rfl : v = .slice (some a) len cap := by simpa using h0
    simp only [if_true] at hm
    subst hm
    have hch : ∀ i, i < len → ∃ cs' : List Value, w.cells? 0 (a.add (i * P.cellsOf e)) (P.cellsOf e) = some cs' ∧ All2 (Leaf enc P w 0 (fun _ => true) true) ls cs' := fun i hi => by
      obtain ⟨cs', h1, h2⟩ := hx i (by omega)
      exact ⟨cs', h1, leafs_ok D e ls hl _ _ _ h2⟩
    obtain ⟨R, hR⟩ := Deep.choose_lt (α := List Value) (p := fun i cs' => w.cells? 0 (a.add (i * P.cellsOf e)) (P.cellsOf e) = some cs' ∧ All2 (Leaf enc P w 0 (fun _ => true) true) ls cs') hch
    refine ⟨some a, len, _, (List.range len).map R, rfl, hlc, hcm, (fun h => by cases h), by simp, ?_, fun hp => ?_⟩
    · intro r hr
      obtain ⟨i, hi, rfl⟩ := List.mem_map.1 hr
      exact (hR i (by simpa using hi)).2
    · have hsp : a.spot = none := by
        obtain ⟨h1, h2⟩ := hR 0 hp
        obtain ⟨_, h4, h5⟩ := World.cells?_some h1
        have h6 := h5 0 (by rw [hc]; exact hpos)
        have hl2 : (R 0).length = ls.length := h2.length.symm
        rw [List.getElem?_eq_getElem (by rw [hl2]; exact hpos)] at h6
        have e : (a.add (0 * P.cellsOf e)).add 0 = a := by simp [Addr.add]
        rw [e] at h6
        unfold World.cell? at h6
        split at h6
        · split at h6
          · cases h6
          · rename_i hq
            simpa using hq
        · cases h6
      obtain ⟨g, off, sp⟩ := a
      obtain rfl : sp = none := hsp
      refine ⟨g, off, rfl, fun i r hr j u hu => ?_⟩
      have hi : i < len := by
        have := (List.getElem?_eq_some_iff.1 hr).1
        simpa using this
      obtain rfl : R i = r := by simpa [hi] using hr
      obtain ⟨h1, h2⟩ := hR i hi
      obtain ⟨_, h4, h5⟩ := World.cells?_some h1
      have hj : j < (R i).length := (List.getElem?_eq_some_iff.1 hu).1
      have h6 := h5 j (by omega)
      rw [Addr.add_mid, Addr.add_mid, hc] at h6
      rw [h6, hu]
end
end Mur
