/- What the row rests on, part 6. -/
import Derived.Test.YtfhneademopciaaDoorPT5
import Derived.Test.YtfhneademopciaaDoorPT3
namespace Mur
open Go Go.RowKit Wk
def letC (b : Bool) (c : List Value) : List Value := .int .i64 (if b then 1 else 0) :: c
theorem letC_length {b : Bool} {c : List Value} (h : c.length = 37) : (letC b c).length = 38 := by rw [letC, List.length_cons, h]
theorem letC_one {b : Bool} {c : List Value} (h : ∀ v ∈ c, v.oneCell' = true) : ∀ v ∈ letC b c, v.oneCell' = true := by
  intro v hv
  rcases List.mem_cons.1 hv with rfl | hv
  · rfl
  · exact h v hv
def letR (R : List (Bool × Raw)) : List (List Value) := R.map fun y => letC y.1 y.2.C
theorem letR_append (R T : List (Bool × Raw)) : letR (R ++ T) = letR R ++ letR T := by simp [letR]
theorem letR_take (R : List (Bool × Raw)) (i : Nat) : letR (R.take i) = (letR R).take i := by simp [letR, List.map_take]
theorem letR_drop (R : List (Bool × Raw)) (i : Nat) : letR (R.drop i) = (letR R).drop i := by simp [letR, List.map_drop]
def LetOk (w : World) : List (Bool × Raw) → List (Bool × Msg) → Prop
  | [], [] => True
  | r :: R, m :: M => (r.1 = m.1 ∧ RawOk w r.2 m.2) ∧ LetOk w R M
  | _, _ => False
def subsP (R : List (Bool × Raw)) : List Nat := R.flatMap fun y => y.2.subs
theorem LetOk.length {w : World} : ∀ {R : List (Bool × Raw)} {M : List (Bool × Msg)}, LetOk w R M → R.length = M.length
  | [], [], _ => rfl
  | [], _ :: _, h => h.elim
  | _ :: _, [], h => h.elim
  | _ :: _, _ :: _, h => by rw [List.length_cons, List.length_cons, LetOk.length h.2]
theorem LetOk.keep {w w' : World} {F : List Nat} (k : Keep F w w') : ∀ {R : List (Bool × Raw)} {M : List (Bool × Msg)}, LetOk w R M → (∀ q, q ∈ subsP R → q ∈ F) → LetOk w' R M
  | [], [], _, _ => trivial
  | [], _ :: _, h, _ => h.elim
  | _ :: _, [], h, _ => h.elim
  | r :: R, m :: M, h, hF => ⟨⟨h.1.1, h.1.2.keep k fun q hq => hF q (by simp only [subsP, List.flatMap_cons, List.mem_append]; exact .inl hq)⟩, LetOk.keep k h.2 fun q hq => hF q (by simp only [subsP, List.flatMap_cons, List.mem_append]; exact .inr hq)⟩
theorem LetOk.append {w : World} : ∀ {R T : List (Bool × Raw)} {M N : List (Bool × Msg)}, LetOk w R M → LetOk w T N → LetOk w (R ++ T) (M ++ N)
  | [], _, [], _, _, k => k
  | [], _, _ :: _, _, h, _ => h.elim
  | _ :: _, _, [], _, h, _ => h.elim
  | _ :: _, _, _ :: _, _, h, k => ⟨h.1, LetOk.append h.2 k⟩
theorem LetOk.take {w : World} : ∀ {R : List (Bool × Raw)} {M : List (Bool × Msg)} (i : Nat), LetOk w R M → LetOk w (R.take i) (M.take i)
  | [], [], i, _ => by
    rw [List.take_nil, List.take_nil]
    trivial
  | [], _ :: _, _, h => h.elim
  | _ :: _, [], _, h => h.elim
  | _ :: _, _ :: _, 0, _ => trivial
  | _ :: _, _ :: _, i + 1, h => ⟨h.1, LetOk.take i h.2⟩
theorem LetOk.drop {w : World} : ∀ {R : List (Bool × Raw)} {M : List (Bool × Msg)} (i : Nat), LetOk w R M → LetOk w (R.drop i) (M.drop i)
  | [], [], i, _ => by
    rw [List.drop_nil, List.drop_nil]
    trivial
  | [], _ :: _, _, h => h.elim
  | _ :: _, [], _, h => h.elim
  | _ :: _, _ :: _, 0, h => h
  | _ :: _, _ :: _, i + 1, h => LetOk.drop i h.2
theorem LetOk.at {w : World} : ∀ {R : List (Bool × Raw)} {M : List (Bool × Msg)} {i : Nat} {m : Bool × Msg}, LetOk w R M → M[i]? = some m → ∃ r, R[i]? = some r ∧ r.1 = m.1 ∧ RawOk w r.2 m.2
  | [], [], i, _, _, hm => by simp at hm
  | [], _ :: _, _, _, h, _ => h.elim
  | _ :: _, [], _, _, h, _ => h.elim
  | r :: _, m0 :: _, 0, m, h, hm => by
    simp at hm
    subst hm
    exact ⟨r, by simp, h.1.1, h.1.2⟩
  | _ :: _, _ :: _, i + 1, m, h, hm => by
    obtain ⟨r, h1, h2⟩ := LetOk.at h.2 (i := i) (m := m) (by simpa using hm)
    exact ⟨r, by simpa using h1, h2⟩
theorem LetOk.lt {w : World} : ∀ {R : List (Bool × Raw)} {M : List (Bool × Msg)}, LetOk w R M → ∀ q, q ∈ subsP R → q < w.heap.size
  | [], [], _, q, hq => by simp [subsP] at hq
  | [], _ :: _, h, _, _ => h.elim
  | _ :: _, [], h, _, _ => h.elim
  | r :: R, m :: M, h, q, hq => by
    simp only [subsP, List.flatMap_cons, List.mem_append] at hq
    rcases hq with hq | hq
    · exact h.1.2.subs_lt q hq
    · exact LetOk.lt h.2 q hq
theorem subsP_append (R T : List (Bool × Raw)) : subsP (R ++ T) = subsP R ++ subsP T := by simp [subsP]
theorem subsP_sub {R T : List (Bool × Raw)} (h : ∀ y, y ∈ R → y ∈ T) : ∀ q, q ∈ subsP R → q ∈ subsP T := fun q hq => by
  obtain ⟨y, h1, h2⟩ := List.mem_flatMap.1 hq
  exact List.mem_flatMap.2 ⟨y, h y h1, h2⟩
def LetA (w : World) (base e : Nat) (X : List Nat) (A : Option Addr) (n c : Nat) (M : List (Bool × Msg)) : Prop :=
  ∃ R : List (Bool × Raw), OwnR w base e 38 A n c (letR R) ∧ LetOk w R M ∧ (∀ q, q ∈ subsP R → q ∈ X) ∧ (∀ q, (Value.slice A n c).ownBlock = some q → q ∈ X) ∧ (∀ q, q ∈ subsP R → (Value.slice A n c).ownBlock ≠ some q) ∧ ∀ q, q ∈ X → base ≤ q ∧ q < w.heap.size
section
variable {w w' : World} {base e n c : Nat} {A : Option Addr} {X : List Nat} {M : List (Bool × Msg)}
theorem letA_nil (w : World) (base e : Nat) : LetA w base e [] none 0 0 [] := ⟨[], ownR_nil _ _ _ (by decide), trivial, (fun q hq => by cases hq), (fun q hq => by cases hq), (fun q hq => by cases hq), (fun q hq => by cases hq)⟩
theorem LetA.len (h : LetA w base e X A n c M) : M.length = n := by
  obtain ⟨R, h1, h2, _⟩ := h
  rw [← h2.length, ← h1.len, letR, List.length_map]
theorem LetA.nc (h : LetA w base e X A n c M) : n ≤ c := let ⟨_, h1, _⟩ := h; h1.nc
theorem LetA.cm (h : LetA w base e X A n c M) : c ≤ maxLen := let ⟨_, h1, _⟩ := h; h1.cm
theorem LetA.mem (h : LetA w base e X A n c M) : ∀ q, q ∈ X → base ≤ q ∧ q < w.heap.size := let ⟨_, _, _, _, _, _, h1⟩ := h; h1
theorem LetA.own (h : LetA w base e X A n c M) : ∀ q, (Value.slice A n c).ownBlock = some q → q ∈ X := let ⟨_, _, _, _, h1, _⟩ := h; h1
theorem LetA.chg {T : List Nat} (h : LetA w base e X A n c M) (ch : Chg T w w') (ho : ∀ q, q ∈ X → Off q T) : LetA w' base e X A n c M := by
  obtain ⟨R, h1, h2, h3, h4, h5, h6⟩ := h
  have hz := ch.size
  exact ⟨R, h1.chg (by decide) ch fun g hg _ _ => ho g (h4 g hg), h2.keep (Keep.of ch (fun q hq => h2.lt q hq) fun q hq => ho q (h3 q hq)) fun _ hq => hq, h3, h4, h5, fun q hq => ⟨(h6 q hq).1, Nat.lt_of_lt_of_le (h6 q hq).2 hz⟩⟩
theorem LetA.row0 (h : LetA w base e X A n c M) {i : Nat} {b : Bool} {m : Msg} (hm : M[i]? = some (b, m)) : ∃ r g, A = some ⟨g, 0, none⟩ ∧ w.rangeAt g (0 + i * 38) (letC b r.C) ∧ RawOk w r m ∧ g ∈ X ∧ ∀ q, q ∈ r.subs → q ∈ X := by
  obtain ⟨R, h1, h2, h3, h4, _⟩ := h
  obtain ⟨⟨b', r⟩, e1, rfl, e2⟩ := h2.at hm
  obtain ⟨hi, _⟩ := List.getElem?_eq_some_iff.1 e1
  have hn : 0 < n := by
    have := h1.len
    rw [letR, List.length_map] at this
    omega
  obtain ⟨g, rfl, _⟩ := own_some h1.own hn
  obtain ⟨g', off, e3, e4⟩ := h1.slR.row (i := i) (r := letC b' r.C) (by rw [letR, List.getElem?_map, e1]; rfl) (by decide)
  cases e3
  exact ⟨r, g, rfl, e4, e2, h4 g rfl, fun q hq => h3 q (List.mem_flatMap.2 ⟨_, List.mem_of_getElem? e1, hq⟩)⟩
theorem SlR.take {sz : Nat} {R : List (List Value)} (h : SlR w sz A n R) (i : Nat) (hi : i ≤ n) : SlR w sz A i (R.take i) := by
  have hl := h.len
  have hs : Sized sz (R.take i) := fun r hr => h.szd r (List.mem_of_mem_take hr)
  refine ⟨by rw [List.length_take]; omega, hs, by rw [flatR_len hs, List.length_take, Nat.min_eq_left (by omega)], fun hn => ?_⟩
  rw [flatR_take h.szd] at hn ⊢
  obtain ⟨g, off, e1, hr⟩ := h.sl.2 (fun e2 => hn (by rw [e2, List.take_nil]))
  refine ⟨g, off, e1, ?_⟩
  have := range_cut hr 0 ((flatR R).take (i * sz)) (by rw [List.drop_zero, List.length_take]; rcases Nat.le_total (i * sz) (flatR R).length with q | q
                                                       · rw [Nat.min_eq_left q]
                                                       · rw [Nat.min_eq_right q, List.take_length, List.take_of_length_le q])
  simpa using this
theorem SlR.drop {sz g off : Nat} {R : List (List Value)} (h : SlR w sz (some ⟨g, off, none⟩) n R) (i : Nat) : SlR w sz (some ⟨g, off + i * sz, none⟩) (n - i) (R.drop i) := by
  have hl := h.len
  have hs : Sized sz (R.drop i) := fun r hr => h.szd r (List.mem_of_mem_drop hr)
  refine ⟨by rw [List.length_drop]; omega, hs, by rw [flatR_len hs, List.length_drop, hl], fun hn => ?_⟩
  rw [flatR_drop h.szd] at hn ⊢
  obtain ⟨g', off', e1, hr⟩ := h.sl.2 (fun e2 => hn (by rw [e2]; simp))
  cases e1
  exact ⟨g, _, rfl, range_cut hr (i * sz) _ (by rw [List.take_of_length_le (Nat.le_refl _)])⟩
theorem slR_none (w : World) (sz : Nat) (A : Option Addr) : SlR w sz A 0 [] := ⟨rfl, (fun r hr => by cases hr), (by simp [flatR]), fun h => absurd rfl h⟩
end
section
variable {P : Program} {w : World} {a : Act} {o : Oper}
end
end Mur
namespace Mur
open Go Go.RowKit Wk
theorem letC_size {b : Bool} {c : List Value} (h : c.length = 37) : (letC b c).toArray.size = 38 := letC_length h
theorem letC_all {b : Bool} {c : List Value} (h : ∀ v ∈ c, v.oneCell' = true) : (letC b c).toArray.all (·.oneCell') = true := Array.all_eq_true_iff_forall_mem.2 fun v hv => letC_one h v (by simpa using hv)
theorem let_to {w : World} {g o : Nat} {b : Bool} {c : List Value} (h : w.rangeAt g o (letC b c)) : w.cell? ⟨g, o, none⟩ = some (.int .i64 (if b then 1 else 0)) := h 0 _ rfl
theorem let_msg {w : World} {g o : Nat} {b : Bool} {c : List Value} (h : w.rangeAt g o (letC b c)) : w.rangeAt g (o + 1) c := fun j v hv => by
  have := h (1 + j) v (by rw [letC, Nat.add_comm, List.getElem?_cons_succ]; exact hv)
  rwa [← Nat.add_assoc] at this
section
variable {w w' : World} {base e n c : Nat} {A : Option Addr} {M : List Msg}
def MsgY (w : World) (base e : Nat) (Y : List Nat) (A : Option Addr) (n c : Nat) (M : List Msg) : Prop :=
  ∃ R : List Raw, OwnR w base e 37 A n c (R.map Raw.C) ∧ RawsOk w R M ∧ (∀ q, q ∈ subsL R → q ∈ Y) ∧ ∀ q, (Value.slice A n c).ownBlock = some q → q ∈ Y
theorem MsgA.toY (h : MsgA w base e A n c M) : ∃ Y, MsgY w base e Y A n c M ∧ ∀ q, q ∈ Y → base ≤ q ∧ q < w.heap.size := by
  obtain ⟨R, h1, h2, h3⟩ := h
  refine ⟨subsL R ++ blk (.slice A n c), ⟨R, h1, h2, fun q hq => List.mem_append_left _ hq, fun q hq => List.mem_append_right _ (by unfold blk; rw [hq]; simp)⟩, fun q hq => ?_⟩
  rcases List.mem_append.1 hq with hq | hq
  · exact ⟨(h3 q hq).1, h2.lt q hq⟩
  · exact h1.lt q (blk_mem hq)
theorem MsgY.len {Y : List Nat} (h : MsgY w base e Y A n c M) : M.length = n := by
  obtain ⟨R, h1, h2, _⟩ := h
  rw [← h2.length, ← h1.len, List.length_map]
theorem MsgY.chg {T Y : List Nat} (h : MsgY w base e Y A n c M) (ch : Chg T w w') (ho : ∀ q, q ∈ Y → Off q T) : MsgY w' base e Y A n c M := by
  obtain ⟨R, h1, h2, h3, h4⟩ := h
  exact ⟨R, h1.chg (by decide) ch fun g hg _ _ => ho g (h4 g hg), h2.chg ch fun q hq => ho q (h3 q hq), h3, h4⟩
theorem MsgY.row0 {Y : List Nat} (h : MsgY w base e Y A n c M) {i : Nat} {m : Msg} (hm : M[i]? = some m) : ∃ r g, A = some ⟨g, 0, none⟩ ∧ w.rangeAt g (0 + i * 37) r.C ∧ RawOk w r m ∧ g ∈ Y ∧ ∀ q, q ∈ r.subs → q ∈ Y := by
  obtain ⟨R, h1, h2, h3, h4⟩ := h
  have hl := h2.length
  obtain ⟨hi, _⟩ := List.getElem?_eq_some_iff.1 hm
  have hr : R[i]? = some R[i] := List.getElem?_eq_getElem (by omega)
  obtain ⟨m', e1, e2⟩ := h2.at hr
  rw [hm] at e1
  cases e1
  have hn : 0 < n := by
    have := h1.len
    rw [List.length_map] at this
    omega
  obtain ⟨g, rfl, _⟩ := own_some h1.own hn
  obtain ⟨g', off, e3, e4⟩ := h1.slR.row (i := i) (r := R[i].C) (by rw [List.getElem?_map, hr]; rfl) (by decide)
  cases e3
  exact ⟨R[i], g, rfl, e4, e2, h4 g rfl, fun q hq => h3 q (List.mem_flatMap.2 ⟨R[i], List.getElem_mem _, hq⟩)⟩
end
theorem letA_cut {w w2 : World} {base base2 e n2 c2 i : Nat} {A2 : Option Addr} {X : List Nat} {R : List (Bool × Raw)} {M : List (Bool × Msg)} (hK : LetOk w R M) (hX : ∀ q, q ∈ subsP R → q ∈ X) (hXm : ∀ q, q ∈ X → base ≤ q ∧ q < w.heap.size)
    (hO : OwnR w2 base2 e 38 A2 n2 c2 ((letR R).take i ++ (letR R).drop (i + 1))) (ch : Chg [] w w2) (hb : w.heap.size ≤ base2) (hb2 : base ≤ w.heap.size) : LetA w2 base e (blk (.slice A2 n2 c2) ++ X) A2 n2 c2 (M.take i ++ M.drop (i + 1)) := by
  have hz := ch.size
  have hK2 : LetOk w2 R M := hK.keep (Keep.of ch (fun q hq => hK.lt q hq) fun q hq => trivial) fun _ hq => hq
  have hs : ∀ q, q ∈ subsP (R.take i ++ R.drop (i + 1)) → q ∈ X := fun q hq => hX q (subsP_sub (fun y hy => (List.mem_append.1 hy).elim List.mem_of_mem_take List.mem_of_mem_drop) q hq)
  refine ⟨R.take i ++ R.drop (i + 1), ?_, (hK2.take i).append (hK2.drop (i + 1)), fun q hq => List.mem_append_right _ (hs q hq), fun q hq => List.mem_append_left _ (by unfold blk; rw [hq]; simp), fun q hq e1 => ?_, fun q hq => ?_⟩
  · rw [letR_append, letR_take, letR_drop]
    exact ownR (own_le hO.own (Nat.le_trans hb2 hb)) hO.szd (by decide)
  · have := (hO.lt q e1).1
    have := (hXm q (hs q hq)).2
    omega
  · rcases List.mem_append.1 hq with hq | hq
    · have := hO.lt q (blk_mem hq)
      omega
    · have := hXm q hq
      omega
section
variable {P : Program} {w : World} {a : Act} {o : Oper}
theorem run_fromL (t : TypeId) (x y : Operand) (ho : o.op = .slice t x (some y) none none) (e : TypeId) (ht : P.underlying t = some (.slice e)) (hsz : (P.info? e).map (·.size) = some 38) (A B : Option Addr) (n c l : Nat) (hB : B = if c = l then A else A.map (·.add (l * 38)))
    (hx : a.eval x = .slice A n c) (hy : a.eval y = .int .i64 ((l : Nat) : Int)) (hl : l ≤ n) (m : Nat) (hm : n - l = m) : (execOp a.eval o).run P w = .ok (.value (.slice B m (c - l))) w := by
  subst hB
  exact run_fromK t x y ho e ht 38 hsz A n c l hx hy hl m hm
theorem slR_from {g n c l : Nat} {B : Option Addr} {R : List (List Value)} (hs : SlR w 38 (some ⟨g, 0, none⟩) n R) (hc : n ≤ c) (hB : B = if c = l then some ⟨g, 0, none⟩ else (some (⟨g, 0, none⟩ : Addr)).map (·.add (l * 38))) (hl : l ≤ n) : SlR w 38 B (n - l) (R.drop l) ∧ (B = none → c - l = 0) := by
  subst hB
  constructor
  · by_cases h : c = l
    · have h1 : n - l = 0 := by omega
      rw [h1, List.drop_of_length_le (by rw [hs.len]; omega)]
      exact slR_none _ _ _
    · rw [if_neg h]
      have := hs.drop l
      rwa [Option.map_some, Addr.add_mid]
  · intro h
    split at h <;> simp_all
theorem appendL (s x : Operand) (t e : TypeId) (ho : o.op = .call { callee := .builtin .append, args := #[s, x], argTypes := #[t, t] }) (ht : P.underlying t = some (.slice e)) (hinfo : (P.info? e).map (fun i => (i.zero, i.size, i.bytes)) = some (some (.agg (letC false msgZ).toArray), 38, 112))
    (base : Nat) (X : List Nat) (A0 : Option Addr) (n c0 : Nat) (M : List (Bool × Msg)) (g : Nat) (b : Bool) (r : Raw) (m : Msg) (hs : a.eval s = .slice A0 n c0) (hx : a.eval x = .slice (some ⟨g, 0, none⟩) 1 1) (H : LetA w base e X A0 n c0 M) (hg : w.heap[g]? = some (.cells (letC b r.C).toArray e (0, 0))) (hr : RawOk w r m)
    (hsub : ∀ q, q ∈ r.subs → base ≤ q ∧ (Value.slice A0 n c0).ownBlock ≠ some q) (hbase : base ≤ w.heap.size) (hl : n + 1 ≤ 1000000) :
    ∃ v1 w1, (execOp a.eval o).run P w = .ok (.value v1) w1 ∧ ∃ A1 c1 X1, v1 = .slice A1 (n + 1) c1 ∧ LetA w1 base e X1 A1 (n + 1) c1 (M ++ [(b, m)]) ∧ Chg (blk (.slice A0 n c0)) w w1 ∧ (∀ q, q ∈ X1 → q ∈ X ∨ q ∈ r.subs ∨ q = w.heap.size) ∧ ∀ q, (Value.slice A1 (n + 1) c1).ownBlock = some q → (Value.slice A0 n c0).ownBlock = some q ∨ q = w.heap.size := by
  obtain ⟨R, h1, h2, h3, h4, h5, h6⟩ := H
  obtain ⟨v1, w1, q1, A1, c1, q2, q3, q4, q5⟩ := appendR (P := P) s x t e ho ht _ 38 112 hinfo rfl (by decide) (by decide) base A0 n c0 (letR R) (some ⟨g, 0, none⟩) 1 1 [letC b r.C] hs hx h1 (slR_box (letC_length (msgC_length r.hs)) (letC_one msgC_one) hg) (fun h => by cases h) hbase hl (n + 1) rfl
  have hz := q4.size
  have hsl : ∀ q, q ∈ subsP (R ++ [(b, r)]) → base ≤ q ∧ q < w.heap.size ∧ (Value.slice A0 n c0).ownBlock ≠ some q ∧ (q ∈ X ∨ q ∈ r.subs) := fun q hq => by
    rw [subsP_append] at hq
    rcases List.mem_append.1 hq with hq | hq
    · exact ⟨(h6 q (h3 q hq)).1, (h6 q (h3 q hq)).2, h5 q hq, .inl (h3 q hq)⟩
    · have hq : q ∈ r.subs := by simpa [subsP] using hq
      exact ⟨(hsub q hq).1, hr.subs_lt q hq, (hsub q hq).2, .inr hq⟩
  have hok : LetOk w (R ++ [(b, r)]) (M ++ [(b, m)]) := h2.append ⟨⟨rfl, hr⟩, trivial⟩
  refine ⟨v1, w1, q1, A1, c1, blk (.slice A1 (n + 1) c1) ++ subsP (R ++ [(b, r)]), q2, ⟨R ++ [(b, r)], ?_, hok.keep (Keep.of q4 (fun q hq => hok.lt q hq) fun q hq => off_blk fun k hk => fun e1 => ?_) (fun _ hq => hq), fun q hq => List.mem_append_right _ hq, fun q hq => List.mem_append_left _ (by unfold blk; rw [hq]; simp), fun q hq e1 => ?_, fun q hq => ?_⟩, q4, (fun q hq => ?_), q5⟩
  · rw [letR_append]
    exact q3
  · exact (hsl q hq).2.2.1 (e1 ▸ hk)
  · rcases q5 q e1 with k | k
    · exact (hsl q hq).2.2.1 k
    · have := (hsl q hq).2.1
      omega
  · rcases List.mem_append.1 hq with hq | hq
    · exact q3.lt q (blk_mem hq)
    · have := hsl q hq
      omega
  · rcases List.mem_append.1 hq with hq | hq
    · rcases q5 q (blk_mem hq) with k | k
      · exact .inl (h4 q k)
      · exact .inr (.inr k)
    · rcases (hsl q hq).2.2.2 with k | k
      · exact .inl k
      · exact .inr (.inl k)
end
-- the pure side of a step
def S2 (S0 S1 : List Att) : Bool → List Att := fun b => if b then S1 else S0
theorem upd_S2f (S0 S1 L : List Att) : upd (S2 S0 S1) false L = S2 L S1 := by
  funext b
  cases b <;> rfl
theorem upd_S2t (S0 S1 L : List Att) : upd (S2 S0 S1) true L = S2 S0 L := by
  funext b
  cases b <;> rfl
structure Exch (I : Bool → List Att) (U : List Att) (S0 S1 : List Att) (post : List (Bool × Msg)) (n : Nat) : Prop where
  inv : Inv I U (S2 S0 S1) post
  cov : ¬ Bad I → Cov U (S2 S0 S1) post
  low : n + costP U post ≤ 16803
  one : I false = I true → (n = 0 ∧ post = [(true, summaryM [] (I false))] ∧ S1 = I false) ∨ (n = 1 ∧ post = [])
theorem exch_start {I : Bool → List Att} {U S0 S1 : List Att} (T : Two I U) (h0 : S0 = I false) (h1 : S1 = I true) : Exch I U S0 S1 [(true, summaryM [] S0)] 0 := by
  subst h0 h1
  have e : S2 (I false) (I true) = I := by
    funext b
    cases b <;> rfl
  obtain ⟨a1, a2, a3⟩ := inv_start T
  exact ⟨by rw [e]; exact a1, fun _ => by rw [e]; exact a3, by omega, fun h => .inl ⟨rfl, rfl, h.symm⟩⟩
theorem exch_step {I : Bool → List Att} {U S0 S1 : List Att} {post : List (Bool × Msg)} {n i : Nat} {b : Bool} {m : Msg} (T : Two I U) (h : Exch I U S0 S1 post n) (hi : post[i]? = some (b, m)) :
    Inv I U (upd (S2 S0 S1) b (addsL (learnsM (S2 S0 S1 b) m) (S2 S0 S1 b))) ((post.take i ++ post.drop (i + 1)) ++ (repliesM (S2 S0 S1 b) m).map fun x => (!b, x)) ∧ (¬ Bad I → Cov U (upd (S2 S0 S1) b (addsL (learnsM (S2 S0 S1 b) m) (S2 S0 S1 b))) ((post.take i ++ post.drop (i + 1)) ++ (repliesM (S2 S0 S1 b) m).map fun x => (!b, x))) ∧
      n + 1 + costP U ((post.take i ++ post.drop (i + 1)) ++ (repliesM (S2 S0 S1 b) m).map fun x => (!b, x)) ≤ 16803 ∧ (I false = I true → (n + 1 = 0 ∧ (post.take i ++ post.drop (i + 1)) ++ ((repliesM (S2 S0 S1 b) m).map fun x => (!b, x)) = [(true, summaryM [] (I false))] ∧ S1 = I false) ∨ (n + 1 = 1 ∧ (post.take i ++ post.drop (i + 1)) ++ ((repliesM (S2 S0 S1 b) m).map fun x => (!b, x)) = [])) := by
  obtain ⟨h1, h2, h3⟩ := heard_at T h.inv hi
  refine ⟨h1, fun hb => h3 hb (h.cov hb), by have := h.low; omega, fun hq => .inr ?_⟩
  rcases h.one hq with ⟨rfl, rfl, hS⟩ | ⟨_, rfl⟩
  · obtain rfl : i = 0 := by
      have := (List.getElem?_eq_some_iff.1 hi).1
      simp at this
      exact this
    have e : b = true ∧ m = summaryM [] (I false) := by
      simp at hi
      exact ⟨hi.1, hi.2.symm⟩
    obtain ⟨rfl, rfl⟩ := e
    have hl : (I false).length ≤ 200 := by
      have := h.inv.len T true
      rwa [show S2 S0 S1 true = S1 from rfl, hS] at this
    refine ⟨rfl, ?_⟩
    rw [show S2 S0 S1 true = I false from hS, (quiet_one hl).1]
    rfl
  · simp at hi
theorem exch_f {I : Bool → List Att} {U S0 S1 : List Att} {post : List (Bool × Msg)} {n i : Nat} {m : Msg} (T : Two I U) (h : Exch I U S0 S1 post n) (hi : post[i]? = some (false, m)) : Exch I U (addsL (learnsM S0 m) S0) S1 ((post.take i ++ post.drop (i + 1)) ++ (repliesM S0 m).map fun x => (true, x)) (n + 1) := by
  obtain ⟨a1, a2, a3, a4⟩ := exch_step T h hi
  rw [upd_S2f] at a1 a2
  refine ⟨a1, a2, a3, fun hq => .inr ?_⟩
  rcases a4 hq with ⟨k, _⟩ | k
  · cases k
  · exact k
theorem exch_t {I : Bool → List Att} {U S0 S1 : List Att} {post : List (Bool × Msg)} {n i : Nat} {m : Msg} (T : Two I U) (h : Exch I U S0 S1 post n) (hi : post[i]? = some (true, m)) : Exch I U S0 (addsL (learnsM S1 m) S1) ((post.take i ++ post.drop (i + 1)) ++ (repliesM S1 m).map fun x => (false, x)) (n + 1) := by
  obtain ⟨a1, a2, a3, a4⟩ := exch_step T h hi
  rw [upd_S2t] at a1 a2
  refine ⟨a1, a2, a3, fun hq => .inr ?_⟩
  rcases a4 hq with ⟨k, _⟩ | k
  · cases k
  · exact k
theorem exch_end {I : Bool → List Att} {U S0 S1 : List Att} {n : Nat} (T : Two I U) (h : Exch I U S0 S1 [] n) : (I false = I true → n = 1) ∧ (¬ Bad I → S0 = U ∧ S1 = U) := by
  refine ⟨fun hq => ?_, fun hb => ⟨inv_end T h.inv (h.cov hb) false, inv_end T h.inv (h.cov hb) true⟩⟩
  rcases h.one hq with ⟨_, k, _⟩ | ⟨k, _⟩
  · cases k
  · exact k
theorem costP_len (U : List Att) : ∀ post : List (Bool × Msg), post.length ≤ costP U post
  | [] => Nat.zero_le _
  | (b, m) :: post => by
    have h := costP_len U post
    have h1 : 1 ≤ cost U m := by
      unfold cost
      split
      · omega
      · split <;> omega
    rw [costP_cons, List.length_cons]
    omega
theorem two_of {Z0 Z1 U : List Att} (h0 : Sorted Z0) (h1 : Sorted Z1) (hu : Sorted U) (hl : U.length ≤ 200) (ok : ∀ y, y ∈ U → may y.n) (hm : ∀ y, y ∈ U ↔ y ∈ Z0 ∨ y ∈ Z1) : Two (S2 Z0 Z1) U :=
  ⟨hu, hl, ok, (fun b => by cases b <;> first | exact h0 | exact h1), (fun b x h => (hm x).2 (by cases b <;> first | exact .inl h | exact .inr h)), fun x h => (hm x).1 h⟩
theorem addsL_snoc (l L : List Att) (x : Att) : addsL (l ++ [x]) L = (addS x (addsL l L)).1 := by simp [addsL]
theorem adds_step {l L : List Att} {j : Nat} {x : Att} (hx : l[j]? = some x) : addsL (l.take (j + 1)) L = (addS x (addsL (l.take j) L)).1 := by rw [take_snoc hx, addsL_snoc]
theorem map_snoc {M : List Msg} {k : Nat} {m : Msg} (hm : M[k]? = some m) (b : Bool) : ((M.take (k + 1)).map fun x => (b, x)) = ((M.take k).map fun x => (b, x)) ++ [(b, m)] := by
  obtain ⟨hi, rfl⟩ := List.getElem?_eq_some_iff.1 hm
  rw [List.take_succ_eq_append_getElem hi, List.map_append]
  rfl
end Mur
namespace Go.Proofs.YtfhneademopciaaDoor
open Go.RowKit Wk
open Mur (b8s msgC z32)
theorem lettI : (Tryd.prog.info? 104).map (fun i => (i.zero, i.size, i.bytes)) = some (some (.agg (Mur.letC false Mur.msgZ).toArray), 38, 112) := by kernel_rfl
theorem built_letter (b : Bool) {c : List Value} (hc : c.length = 37) : Program.built Tryd.prog 104 [(0, .int .i64 (if b then 1 else 0)), (1, .agg c.toArray)] = some (Mur.letC b c).toArray := by
  refine (show Program.built Tryd.prog 104 [(0, .int .i64 (if b then 1 else 0)), (1, .agg c.toArray)] = Instr.fill (fun i => #[(0, 1), (1, 37)][i]?) (Mur.letC false Mur.msgZ).toArray [(0, .int .i64 (if b then 1 else 0)), (1, .agg c.toArray)] from by kernel_rfl).trans ?_
  refine Mur.fill_part (off := 0) (size := 1) (vs := [.int .i64 (if b then 1 else 0)]) rfl rfl rfl (by rw [Mur.letC_length rfl]; omega) ?_
  refine Mur.fill_part (off := 1) (size := 37) (vs := c) rfl rfl hc (by
    show 1 + 37 ≤ 38
    omega) ?_
  have e : splice (splice (Mur.letC false Mur.msgZ) 0 [.int .i64 (if b then 1 else 0)]) 1 c = Mur.letC b c := by
    show splice (.int .i64 (if b then 1 else 0) :: Mur.msgZ) 1 c = _
    have := Mur.splice_mid (A := [Value.int .i64 (if b then 1 else 0)]) (B := Mur.msgZ) (C := []) (vs := c) (off := 1) rfl (by rw [hc]; rfl)
    simpa [Mur.letC] using this
  rw [e]
  rfl
end Go.Proofs.YtfhneademopciaaDoor
namespace Mur
open Go Go.RowKit
def BadP (p : List UInt8) (L0 L1 : List Att) : Prop := ∃ q, isPre q = true ∧ p <+: q ∧ belowL q L0 ≠ belowL q L1 ∧ cntL q L0 = cntL q L1 ∧ sumL q L0 = sumL q L1
theorem badP_of {L0 L1 : List Att} (h : Bad (S2 L0 L1)) : BadP [] L0 L1 := by
  obtain ⟨q, h1, h2, h3, h4⟩ := h
  exact ⟨q, h1, List.nil_prefix, h2, h3, h4⟩
theorem under_mono {p s k : List UInt8} (h : under (p ++ s) k = true) : under p k = true := by
  rw [under_iff] at h ⊢
  intro i hi
  rw [h i (by rw [List.length_append]; omega)]
  simp only [List.getD_eq_getElem?_getD, List.getElem?_append_left hi]
theorem belowL_mono {p s : List UInt8} {L : List Att} (hp : isPre p = true) (hq : isPre (p ++ s) = true) : belowL (p ++ s) L = (belowL p L).filter fun x => under (p ++ s) x.k := by
  rw [belowL_ok hp, belowL_ok hq, List.filter_filter]
  refine List.filter_congr fun x _ => ?_
  cases h : under (p ++ s) x.k
  · simp
  · rw [under_mono h]
    rfl
theorem badP_same {p : List UInt8} {L0 L1 : List Att} (hp : isPre p = true) (h : belowL p L0 = belowL p L1) : ¬ BadP p L0 L1 := by
  rintro ⟨q, h1, ⟨s, rfl⟩, h2, _⟩
  exact h2 (by rw [belowL_mono hp h1, belowL_mono hp h1, h])
theorem badP_next {p : List UInt8} {L0 L1 : List Att} (hb : BadP p L0 L1) (h : ¬ (cntL p L0 = cntL p L1 ∧ sumL p L0 = sumL p L1)) : p.length < 8 ∧ ∃ u : UInt8, u.toNat < 16 ∧ BadP (p ++ [u]) L0 L1 := by
  obtain ⟨q, h1, ⟨s, rfl⟩, h2, h3, h4⟩ := hb
  rcases s with _ | ⟨u, s⟩
  · rw [List.append_nil] at h3 h4
    exact absurd ⟨h3, h4⟩ h
  · have hl := pre_len h1
    rw [List.length_append, List.length_cons] at hl
    refine ⟨by omega, u, ?_, p ++ u :: s, h1, ⟨s, by simp⟩, h2, h3, h4⟩
    have ha : u ≤ 15 := by
      unfold isPre at h1
      simp only [Bool.and_eq_true, List.all_eq_true, decide_eq_true_eq] at h1
      exact h1.1 u (by simp)
    have := UInt8.le_iff_toNat_le.1 ha
    have h15 : (15 : UInt8).toNat = 15 := rfl
    omega
theorem badP_no {p : List UInt8} {L0 L1 : List Att} (h : ¬ (cntL p L0 = cntL p L1 ∧ sumL p L0 = sumL p L1)) (ha : p.length < 8 → ∀ u : UInt8, u.toNat < 16 → ¬ BadP (p ++ [u]) L0 L1) : ¬ BadP p L0 L1 := fun hb => by
  obtain ⟨h1, u, h2, h3⟩ := badP_next hb h
  exact ha h1 u h2 h3
theorem u8_lt_succ {u v : UInt8} (h : v.toNat < u.toNat + 1) : v.toNat < u.toNat ∨ v = u := by
  rcases Nat.lt_or_ge v.toNat u.toNat with k | k
  · exact .inl k
  · exact .inr (UInt8.toNat_inj.1 (by omega))
end Mur
namespace Mur
open Go Go.RowKit
theorem Canon.full {X : Att → Prop} {L l : List Att} (h : Canon X L) (hl : l.length ≤ 200) (hX : ∀ y, X y → y ∈ l) (y : Att) : y ∈ L ↔ X y ∧ may y.n := by
  refine ⟨fun hy => h.sub y hy, fun hy => Classical.byContradiction fun hn => ?_⟩
  have h1 := (h.out y hy.1 hy.2 hn).1
  have h2 : L.length ≤ (l.erase y).length := nodup_le h.srt.nodup fun z hz => by
    have hne : z ≠ y := fun e => hn (e ▸ hz)
    exact (List.mem_erase_of_ne hne).2 (hX z (h.sub z hz).1)
  have h3 := List.length_erase_of_mem (hX y hy.1)
  have h4 : 0 < l.length := List.length_pos_of_mem (hX y hy.1)
  omega
theorem Canon.le {X : Att → Prop} {L l : List Att} (h : Canon X L) (hX : ∀ y, X y → y ∈ l) : L.length ≤ l.length := nodup_le h.srt.nodup fun z hz => hX z (h.sub z hz).1
theorem shown_of {L0 L1 S0 S1 U : List Att} (h : ¬ Bad (S2 L0 L1) → S0 = U ∧ S1 = U) (hn : ¬ (S0 = U ∧ S1 = U)) : BadP [] L0 L1 := Classical.byContradiction fun hb => hn (h fun k => hb (badP_of k))
end Mur
namespace Mur
theorem mem_take_succ {L : List Att} {j : Nat} {x y : Att} (hx : L[j]? = some x) : y ∈ L.take (j + 1) ↔ y = x ∨ y ∈ L.take j := by
  obtain ⟨h, rfl⟩ := List.getElem?_eq_some_iff.1 hx
  rw [List.take_succ_eq_append_getElem h, List.mem_append, List.mem_singleton]
  exact Or.comm
end Mur
namespace Mur
open Go Go.RowKit
theorem Canon.adds {X : Att → Prop} : ∀ (l : List Att) {L : List Att}, Canon X L → Canon (fun y => X y ∨ y ∈ l) (addsL l L)
  | [], L, h => h.iff fun y => by simp
  | x :: l, L, h => by
    have := (h.add x).adds l
    refine Canon.iff (show Canon _ (addsL (x :: l) L) from this) fun y => ?_
    simp only [List.mem_cons]
    constructor
    · rintro ((k | k) | k)
      · exact .inr (.inl k)
      · exact .inl k
      · exact .inr (.inr k)
    · rintro (k | k | k)
      · exact .inl (.inr k)
      · exact .inl (.inl k)
      · exact .inr k
theorem canon_self {L : List Att} (hs : Sorted L) (hl : L.length ≤ 200) (ok : ∀ y, y ∈ L → may y.n) : Canon (fun y => y ∈ L) L := ⟨hs, hl, fun y hy => ⟨hy, ok y hy⟩, fun _ h _ hn => absurd h hn⟩
theorem mem_app_succ {T Z : List Att} {i : Nat} {x y : Att} (hx : Z[i]? = some x) : (y = x ∨ y ∈ T ++ Z.take i) ↔ y ∈ T ++ Z.take (i + 1) := by
  rw [List.mem_append, List.mem_append, mem_take_succ hx]
  exact or_left_comm
theorem two_gen {X Y l : List Att} (sx : Sorted X) (lx : X.length ≤ 200) (ox : ∀ y, y ∈ X → may y.n) (sy : Sorted Y) (oy : ∀ y, y ∈ Y → may y.n) (hX : ∀ y, y ∈ X → y ∈ l) (hY : ∀ y, y ∈ Y → y ∈ l) (hl : l.length ≤ 200) : Two (S2 X Y) (addsL Y X) ∧ Canon (fun y => y ∈ X ++ Y) (addsL Y X) := by
  have hc : Canon (fun y => y ∈ X ++ Y) (addsL Y X) := ((canon_self sx lx ox).adds Y).iff fun y => List.mem_append.symm
  refine ⟨two_of sx sy hc.srt hc.len (fun y hy => (hc.sub y hy).2) fun y => ?_, hc⟩
  rw [hc.full hl fun y h => (List.mem_append.1 h).elim (hX y) (hY y), List.mem_append]
  exact ⟨fun h => h.1, fun h => ⟨h, h.elim (ox y) (oy y)⟩⟩
theorem three_end {Z0 Z1 Z2 U V1 V2 V3 A0 A1 B1 B2 C0 C2 : List Att} (l0 : Z0.length ≤ 60) (l1 : Z1.length ≤ 60) (l2 : Z2.length ≤ 60) (o0 : ∀ y, y ∈ Z0 → may y.n) (o1 : ∀ y, y ∈ Z1 → may y.n) (o2 : ∀ y, y ∈ Z2 → may y.n)
    (c1 : Canon (fun y => y ∈ Z0 ++ Z1) V1) (a0 : A0 = V1) (a1 : A1 = V1) (c2 : Canon (fun y => y ∈ A1 ++ Z2) V2) (b1 : B1 = V2) (b2 : B2 = V2) (c3 : Canon (fun y => y ∈ A0 ++ B2) V3) (e0 : C0 = V3) (e2 : C2 = V3) (cU : Canon (fun y => y ∈ (([] ++ Z0) ++ Z1) ++ Z2) U) : C0 = U ∧ B1 = U ∧ C2 = U := by
  subst a0 a1 b1 b2 e0 e2
  have hl : ((Z0 ++ Z1) ++ Z2).length ≤ 200 := by
    simp only [List.length_append]
    omega
  have m1 : ∀ y, y ∈ A1 ↔ y ∈ Z0 ∨ y ∈ Z1 := fun y => by
    rw [c1.full (l := (Z0 ++ Z1) ++ Z2) hl fun y h => List.mem_append_left _ h, List.mem_append]
    exact ⟨fun h => h.1, fun h => ⟨h, h.elim (o0 y) (o1 y)⟩⟩
  have m2 : ∀ y, y ∈ B2 ↔ (y ∈ Z0 ∨ y ∈ Z1) ∨ y ∈ Z2 := fun y => by
    rw [c2.full (l := (Z0 ++ Z1) ++ Z2) hl fun y h => by
      rw [List.mem_append, m1] at h
      rw [List.mem_append, List.mem_append]
      exact h, List.mem_append, m1]
    exact ⟨fun h => h.1, fun h => ⟨h, h.elim (fun k => k.elim (o0 y) (o1 y)) (o2 y)⟩⟩
  have hB : B2 = U := c2.uniq (cU.iff fun y => by simp [m1, or_assoc])
  have hC : C2 = U := c3.uniq (cU.iff fun y => by
    simp only [List.mem_append, List.nil_append, m1, m2]
    constructor
    · exact fun h => .inr h
    · rintro (h | h)
      · exact .inl h
      · exact h)
  exact ⟨hC, hB, hC⟩
theorem calls_yes {P : Program} {f : FuncId} {args : Array Value} {w : World} {p : Prop} [Decidable p] (h : Calls P f args w fun e w' => e = .returned (.bool (decide p)) ∧ Wk.Chg [] w w') (hp : p) : Calls P f args w fun e w' => e = .returned (.bool true) ∧ Wk.Chg [] w w' :=
  h.mono fun e w' k => ⟨by rw [k.1, decide_eq_true hp], k.2⟩
theorem calls_no {P : Program} {f : FuncId} {args : Array Value} {w : World} {p : Prop} [Decidable p] (h : Calls P f args w fun e w' => e = .returned (.bool (decide p)) ∧ Wk.Chg [] w w') (hp : ¬ p) : Calls P f args w fun e w' => e = .returned (.bool false) ∧ Wk.Chg [] w w' :=
  h.mono fun e w' k => ⟨by rw [k.1, decide_eq_false hp], k.2⟩
theorem sub_of {X Y V l : List Att} (h : Canon (fun y => y ∈ X ++ Y) V) (hX : ∀ y, y ∈ X → y ∈ l) (hY : ∀ y, y ∈ Y → y ∈ l) : ∀ y, y ∈ V → y ∈ l := fun y hy => (List.mem_append.1 (h.sub y hy).1).elim (hX y) (hY y)
end Mur
namespace Go.Proofs.YtfhneademopciaaDoor
open Go.RowKit Wk
open Mur (b8s Byt Own8 Seg Segs flat cutA attC)
set_option maxRecDepth 100000
set_option maxHeartbeats 4000000
theorem may_any (k r t : List UInt8) (n : Int) (hk : k.length = 32) (hr : r.length = 32) (_ht : t.length = 32) (w : World) : Calls Tryd.prog 60 #[.agg (attC k r n t).toArray] w fun e w' => e = .returned (.bool (decide (Mur.may n))) ∧ Chg [] w w' := by
 refine calls_of_wp Tryd.func60 rfl ?_
 refine wp_seq (reg ?_)
 refine rX 0 1 rfl rfl (new_ex (.pointer (some ⟨w.heap.size, 0, none⟩)) ((Mur.attC k r n t).toArray) 32 (by kernel_rfl)) ?_
 rintro _ W1 ⟨rfl, hb1, ch1, sz1⟩
 have zz1 := ch1.size
 refine rP 1 2 (.bool false) rfl rfl ?_
 refine rEnd 2 rfl (nxt (wp_seq (reg ?_)))
 refine rP 0 3 (.pointer (some ⟨w.heap.size, 64, none⟩)) rfl rfl ?_
 refine rQ 1 4 _ rfl rfl (load1 3 (.tmp 3) rfl (by kernel_rfl) ⟨w.heap.size, 64, none⟩ (by kernel_rfl) (.int .i64 n) (Mur.att_len hk hr hb1)) ?_
 by_cases hx1 : n ≥ (1 : Int)
 ·refine rQ 2 5 _ rfl rfl (qboolT (b := decide (n ≥ (1 : Int))) (decide_eq_true (by first | exact hx1 | omega))) ?_
  refine rP 3 6 (.bool true) rfl rfl ?_
  refine rP 4 7 (.pointer (some ⟨w.heap.size, 64, none⟩)) rfl rfl ?_
  refine rQ 5 8 _ rfl rfl (load1 3 (.tmp 7) rfl (by kernel_rfl) ⟨w.heap.size, 64, none⟩ (by kernel_rfl) (.int .i64 n) (Mur.att_len hk hr hb1)) ?_
  by_cases hx2 : n ≤ (5000 : Int)
  ·refine rQ 6 9 _ rfl rfl (qboolT (b := decide (n ≤ (5000 : Int))) (decide_eq_true (by first | exact hx2 | omega))) ?_
   refine rP 7 10 (.bool true) rfl rfl ?_
   refine rP 8 2 (.bool true) rfl rfl ?_
   refine rEnd 9 rfl (nxt (wp_ret ?_))
   have kk1 : Chg [] w W1 := Chg.step ((Chg.refl _).more (by simp)) ch1 trivial
   refine Wk.ret (.bool true) rfl (by kernel_rfl) ?_
   exact ⟨by rw [decide_eq_true (show Mur.may n from by unfold Mur.may; omega)], kk1⟩
  refine rQ 6 9 _ rfl rfl (qboolF (b := decide (n ≤ (5000 : Int))) (decide_eq_false (by first | exact hx2 | omega))) ?_
  refine rP 7 10 (.bool false) rfl rfl ?_
  refine rP 8 2 (.bool false) rfl rfl ?_
  refine rEnd 9 rfl (nxt (wp_ret ?_))
  have kk2 : Chg [] w W1 := Chg.step ((Chg.refl _).more (by simp)) ch1 trivial
  refine Wk.ret (.bool false) rfl (by kernel_rfl) ?_
  exact ⟨by rw [decide_eq_false (show ¬ Mur.may n from by unfold Mur.may; omega)], kk2⟩
 refine rQ 2 5 _ rfl rfl (qboolF (b := decide (n ≥ (1 : Int))) (decide_eq_false (by first | exact hx1 | omega))) ?_
 refine rP 3 6 (.bool false) rfl rfl ?_
 refine rPass 4 (some 7) rfl rfl (by kernel_rfl) ?_
 refine rPass 5 (some 8) rfl rfl (by kernel_rfl) ?_
 refine rPass 6 (some 9) rfl rfl (by kernel_rfl) ?_
 refine rP 7 10 (.bool false) rfl rfl ?_
 refine rP 8 2 (.bool false) rfl rfl ?_
 refine rEnd 9 rfl (nxt (wp_ret ?_))
 have kk3 : Chg [] w W1 := Chg.step ((Chg.refl _).more (by simp)) ch1 trivial
 refine Wk.ret (.bool false) rfl (by kernel_rfl) ?_
 exact ⟨by rw [decide_eq_false (show ¬ Mur.may n from by unfold Mur.may; omega)], kk3⟩
theorem Rmay_any (k r t : List UInt8) (n : Int) (hk : k.length = 32) (hr : r.length = 32) (_ht : t.length = 32) (w : World) : Calls Tryd.prog 50 #[.agg (attC k r n t).toArray] w fun e w' => e = .returned (.bool (decide (Mur.may n))) ∧ Chg [] w w' := by
 refine calls_of_wp Tryd.func50 rfl ?_
 refine wp_seq (reg ?_)
 refine rX 0 1 rfl rfl (new_ex (.pointer (some ⟨w.heap.size, 0, none⟩)) ((Mur.attC k r n t).toArray) 32 (by kernel_rfl)) ?_
 rintro _ W1 ⟨rfl, hb1, ch1, sz1⟩
 have zz1 := ch1.size
 refine rP 1 2 (.bool false) rfl rfl ?_
 refine rEnd 2 rfl (nxt (wp_seq (reg ?_)))
 refine rP 0 3 (.pointer (some ⟨w.heap.size, 64, none⟩)) rfl rfl ?_
 refine rQ 1 4 _ rfl rfl (load1 3 (.tmp 3) rfl (by kernel_rfl) ⟨w.heap.size, 64, none⟩ (by kernel_rfl) (.int .i64 n) (Mur.att_len hk hr hb1)) ?_
 by_cases hx1 : n ≥ (1 : Int)
 ·refine rQ 2 5 _ rfl rfl (qboolT (b := decide (n ≥ (1 : Int))) (decide_eq_true (by first | exact hx1 | omega))) ?_
  refine rP 3 6 (.bool true) rfl rfl ?_
  refine rP 4 7 (.pointer (some ⟨w.heap.size, 64, none⟩)) rfl rfl ?_
  refine rQ 5 8 _ rfl rfl (load1 3 (.tmp 7) rfl (by kernel_rfl) ⟨w.heap.size, 64, none⟩ (by kernel_rfl) (.int .i64 n) (Mur.att_len hk hr hb1)) ?_
  by_cases hx2 : n ≤ (5000 : Int)
  ·refine rQ 6 9 _ rfl rfl (qboolT (b := decide (n ≤ (5000 : Int))) (decide_eq_true (by first | exact hx2 | omega))) ?_
   refine rP 7 10 (.bool true) rfl rfl ?_
   refine rP 8 2 (.bool true) rfl rfl ?_
   refine rEnd 9 rfl (nxt (wp_ret ?_))
   have kk1 : Chg [] w W1 := Chg.step ((Chg.refl _).more (by simp)) ch1 trivial
   refine Wk.ret (.bool true) rfl (by kernel_rfl) ?_
   exact ⟨by rw [decide_eq_true (show Mur.may n from by unfold Mur.may; omega)], kk1⟩
  refine rQ 6 9 _ rfl rfl (qboolF (b := decide (n ≤ (5000 : Int))) (decide_eq_false (by first | exact hx2 | omega))) ?_
  refine rP 7 10 (.bool false) rfl rfl ?_
  refine rP 8 2 (.bool false) rfl rfl ?_
  refine rEnd 9 rfl (nxt (wp_ret ?_))
  have kk2 : Chg [] w W1 := Chg.step ((Chg.refl _).more (by simp)) ch1 trivial
  refine Wk.ret (.bool false) rfl (by kernel_rfl) ?_
  exact ⟨by rw [decide_eq_false (show ¬ Mur.may n from by unfold Mur.may; omega)], kk2⟩
 refine rQ 2 5 _ rfl rfl (qboolF (b := decide (n ≥ (1 : Int))) (decide_eq_false (by first | exact hx1 | omega))) ?_
 refine rP 3 6 (.bool false) rfl rfl ?_
 refine rPass 4 (some 7) rfl rfl (by kernel_rfl) ?_
 refine rPass 5 (some 8) rfl rfl (by kernel_rfl) ?_
 refine rPass 6 (some 9) rfl rfl (by kernel_rfl) ?_
 refine rP 7 10 (.bool false) rfl rfl ?_
 refine rP 8 2 (.bool false) rfl rfl ?_
 refine rEnd 9 rfl (nxt (wp_ret ?_))
 have kk3 : Chg [] w W1 := Chg.step ((Chg.refl _).more (by simp)) ch1 trivial
 refine Wk.ret (.bool false) rfl (by kernel_rfl) ?_
 exact ⟨by rw [decide_eq_false (show ¬ Mur.may n from by unfold Mur.may; omega)], kk3⟩
theorem eight_any (n : Int) (w : World) : Calls Tryd.prog 80 #[.int .i64 n] w fun e w' => ∃ E, Hid (E = Mur.e8 (Mur.u64n n)) ∧ E.length = 8 ∧ e = .returned (.agg (b8s E).toArray) ∧ Chg [] w w' := by
 refine calls_of_wp Tryd.func80 rfl ?_
 refine wp_seq (reg ?_)
 refine rX 0 2 rfl rfl (new_ex (.pointer (some ⟨w.heap.size, 0, none⟩)) #[.int .u8 0, .int .u8 0, .int .u8 0, .int .u8 0, .int .u8 0, .int .u8 0, .int .u8 0, .int .u8 0] 127 (by kernel_rfl)) ?_
 rintro _ W1 ⟨rfl, hb1, ch1, sz1⟩
 have zz1 := ch1.size
 refine rEnd 1 rfl (nxt (wp_seq (wp_seq (reg ?_))))
 refine rP 0 4 (.int .i64 0) rfl rfl ?_
 refine rEnd 1 rfl (nxt (wp_block ?_))
 refine Wk.loopN 9 ?_
 refine Wk.rdS (wp_seq (reg ?_))
 refine rQ 0 5 _ rfl rfl (qboolT (b := decide ((0 : Int) < (8 : Int))) (decide_eq_true (by decide))) ?_
 refine rEnd 1 rfl (nxt (wp_seq (wp_cond_true (by kernel_rfl) (wp_skip (nxt (wp_seq (wp_block (wp_seq (reg ?_)))))))))
 refine rP 0 6 (.int .i64 0) rfl rfl ?_
 refine rP 1 3 (.int .i64 0) rfl rfl ?_
 refine rEnd 2 rfl (nxt (reg ?_))
 refine rP 0 7 (.int .i64 0) rfl rfl ?_
 refine rP 1 8 (.int .i64 n) rfl rfl ?_
 refine rQ 2 9 (.int .u64 ((Mur.u64n n : Nat) : Int)) rfl rfl (Mur.conv_u64n 3 26 (.tmp 8) rfl (by kernel_rfl) Tryd.underlying26 .i64 n (by kernel_rfl)) ?_
 refine rP 3 10 (.int .i64 0) rfl rfl ?_
 refine rQ 4 11 _ rfl rfl (qint64 (n := 8 * 0) (z := 0) (by omega) (by omega) (by omega)) ?_
 refine rQ 5 12 _ rfl rfl (qint64 (n := 56 - 0) (z := 56) (by omega) (by omega) (by omega)) ?_
 refine rQ 6 13 (.int .u64 (((Mur.u64n n) / 72057594037927936 : Nat) : Int)) rfl rfl (Mur.shr64 26 3 (.tmp 9) (.tmp 12) rfl (Mur.u64n n) 56 .i64 (by kernel_rfl) (by kernel_rfl) (by omega) 72057594037927936 rfl) ?_
 refine rQ 7 14 (.int .u8 (((Mur.u64n n) / 72057594037927936 % 256 : Nat) : Int)) rfl rfl (Mur.conv_u8 26 5 (.tmp 13) rfl (by kernel_rfl) Tryd.underlying5 .u64 ((Mur.u64n n) / 72057594037927936) (by kernel_rfl)) ?_
 refine rQ 8 15 (.pointer (some ⟨w.heap.size, 0, none⟩)) rfl rfl (Wk.index_arr 127 5 (.tmp 2) (.tmp 7) rfl 8 Tryd.underlying127 1 (by kernel_rfl) w.heap.size 0 0 .i64 (by kernel_rfl) (by kernel_rfl) (by decide)) ?_
 refine rY 9 rfl rfl (store1 5 (.tmp 15) (.tmp 14) rfl (by kernel_rfl) w.heap.size 0 (by kernel_rfl) (.int .u8 (((Mur.u64n n) / 72057594037927936 % 256 : Nat) : Int)) (by kernel_rfl) rfl 127 #[.int .u8 0, .int .u8 0, .int .u8 0, .int .u8 0, .int .u8 0, .int .u8 0, .int .u8 0, .int .u8 0] hb1 (by simp)) ?_
 rintro W2 ⟨hb2, ch2⟩
 replace hb2 : W2.heap[w.heap.size]? = some (.cells #[.int .u8 (((Mur.u64n n) / 72057594037927936 % 256 : Nat) : Int), .int .u8 0, .int .u8 0, .int .u8 0, .int .u8 0, .int .u8 0, .int .u8 0, .int .u8 0] 127 (0, 0)) := hb2
 have zz2 := ch2.size
 refine rEnd 10 rfl (inN (nxt (reg ?_)))
 refine rQ 0 16 _ rfl rfl (qint64 (n := 0 + 1) (z := 1) (by omega) (by omega) (by omega)) ?_
 refine rP 1 4 (.int .i64 1) rfl rfl ?_
 refine rEnd 2 rfl (nxt (Wk.rdS (wp_seq (reg ?_))))
 refine rQ 0 5 _ rfl rfl (qboolT (b := decide ((1 : Int) < (8 : Int))) (decide_eq_true (by decide))) ?_
 refine rEnd 1 rfl (nxt (wp_seq (wp_cond_true (by kernel_rfl) (wp_skip (nxt (wp_seq (wp_block (wp_seq (reg ?_)))))))))
 refine rP 0 6 (.int .i64 1) rfl rfl ?_
 refine rP 1 3 (.int .i64 1) rfl rfl ?_
 refine rEnd 2 rfl (nxt (reg ?_))
 refine rP 0 7 (.int .i64 1) rfl rfl ?_
 refine rP 1 8 (.int .i64 n) rfl rfl ?_
 refine rQ 2 9 (.int .u64 ((Mur.u64n n : Nat) : Int)) rfl rfl (Mur.conv_u64n 3 26 (.tmp 8) rfl (by kernel_rfl) Tryd.underlying26 .i64 n (by kernel_rfl)) ?_
 refine rP 3 10 (.int .i64 1) rfl rfl ?_
 refine rQ 4 11 _ rfl rfl (qint64 (n := 8 * 1) (z := 8) (by omega) (by omega) (by omega)) ?_
 refine rQ 5 12 _ rfl rfl (qint64 (n := 56 - 8) (z := 48) (by omega) (by omega) (by omega)) ?_
 refine rQ 6 13 (.int .u64 (((Mur.u64n n) / 281474976710656 : Nat) : Int)) rfl rfl (Mur.shr64 26 3 (.tmp 9) (.tmp 12) rfl (Mur.u64n n) 48 .i64 (by kernel_rfl) (by kernel_rfl) (by omega) 281474976710656 rfl) ?_
 refine rQ 7 14 (.int .u8 (((Mur.u64n n) / 281474976710656 % 256 : Nat) : Int)) rfl rfl (Mur.conv_u8 26 5 (.tmp 13) rfl (by kernel_rfl) Tryd.underlying5 .u64 ((Mur.u64n n) / 281474976710656) (by kernel_rfl)) ?_
 refine rQ 8 15 (.pointer (some ⟨w.heap.size, 1, none⟩)) rfl rfl (Wk.index_arr 127 5 (.tmp 2) (.tmp 7) rfl 8 Tryd.underlying127 1 (by kernel_rfl) w.heap.size 0 1 .i64 (by kernel_rfl) (by kernel_rfl) (by decide)) ?_
 refine rY 9 rfl rfl (store1 5 (.tmp 15) (.tmp 14) rfl (by kernel_rfl) w.heap.size 1 (by kernel_rfl) (.int .u8 (((Mur.u64n n) / 281474976710656 % 256 : Nat) : Int)) (by kernel_rfl) rfl 127 #[.int .u8 (((Mur.u64n n) / 72057594037927936 % 256 : Nat) : Int), .int .u8 0, .int .u8 0, .int .u8 0, .int .u8 0, .int .u8 0, .int .u8 0, .int .u8 0] hb2 (by simp)) ?_
 rintro W3 ⟨hb3, ch3⟩
 replace hb3 : W3.heap[w.heap.size]? = some (.cells #[.int .u8 (((Mur.u64n n) / 72057594037927936 % 256 : Nat) : Int), .int .u8 (((Mur.u64n n) / 281474976710656 % 256 : Nat) : Int), .int .u8 0, .int .u8 0, .int .u8 0, .int .u8 0, .int .u8 0, .int .u8 0] 127 (0, 0)) := hb3
 have zz3 := ch3.size
 refine rEnd 10 rfl (inN (nxt (reg ?_)))
 refine rQ 0 16 _ rfl rfl (qint64 (n := 1 + 1) (z := 2) (by omega) (by omega) (by omega)) ?_
 refine rP 1 4 (.int .i64 2) rfl rfl ?_
 refine rEnd 2 rfl (nxt (Wk.rdS (wp_seq (reg ?_))))
 refine rQ 0 5 _ rfl rfl (qboolT (b := decide ((2 : Int) < (8 : Int))) (decide_eq_true (by decide))) ?_
 refine rEnd 1 rfl (nxt (wp_seq (wp_cond_true (by kernel_rfl) (wp_skip (nxt (wp_seq (wp_block (wp_seq (reg ?_)))))))))
 refine rP 0 6 (.int .i64 2) rfl rfl ?_
 refine rP 1 3 (.int .i64 2) rfl rfl ?_
 refine rEnd 2 rfl (nxt (reg ?_))
 refine rP 0 7 (.int .i64 2) rfl rfl ?_
 refine rP 1 8 (.int .i64 n) rfl rfl ?_
 refine rQ 2 9 (.int .u64 ((Mur.u64n n : Nat) : Int)) rfl rfl (Mur.conv_u64n 3 26 (.tmp 8) rfl (by kernel_rfl) Tryd.underlying26 .i64 n (by kernel_rfl)) ?_
 refine rP 3 10 (.int .i64 2) rfl rfl ?_
 refine rQ 4 11 _ rfl rfl (qint64 (n := 8 * 2) (z := 16) (by omega) (by omega) (by omega)) ?_
 refine rQ 5 12 _ rfl rfl (qint64 (n := 56 - 16) (z := 40) (by omega) (by omega) (by omega)) ?_
 refine rQ 6 13 (.int .u64 (((Mur.u64n n) / 1099511627776 : Nat) : Int)) rfl rfl (Mur.shr64 26 3 (.tmp 9) (.tmp 12) rfl (Mur.u64n n) 40 .i64 (by kernel_rfl) (by kernel_rfl) (by omega) 1099511627776 rfl) ?_
 refine rQ 7 14 (.int .u8 (((Mur.u64n n) / 1099511627776 % 256 : Nat) : Int)) rfl rfl (Mur.conv_u8 26 5 (.tmp 13) rfl (by kernel_rfl) Tryd.underlying5 .u64 ((Mur.u64n n) / 1099511627776) (by kernel_rfl)) ?_
 refine rQ 8 15 (.pointer (some ⟨w.heap.size, 2, none⟩)) rfl rfl (Wk.index_arr 127 5 (.tmp 2) (.tmp 7) rfl 8 Tryd.underlying127 1 (by kernel_rfl) w.heap.size 0 2 .i64 (by kernel_rfl) (by kernel_rfl) (by decide)) ?_
 refine rY 9 rfl rfl (store1 5 (.tmp 15) (.tmp 14) rfl (by kernel_rfl) w.heap.size 2 (by kernel_rfl) (.int .u8 (((Mur.u64n n) / 1099511627776 % 256 : Nat) : Int)) (by kernel_rfl) rfl 127 #[.int .u8 (((Mur.u64n n) / 72057594037927936 % 256 : Nat) : Int), .int .u8 (((Mur.u64n n) / 281474976710656 % 256 : Nat) : Int), .int .u8 0, .int .u8 0, .int .u8 0, .int .u8 0, .int .u8 0, .int .u8 0] hb3 (by simp)) ?_
 rintro W4 ⟨hb4, ch4⟩
 replace hb4 : W4.heap[w.heap.size]? = some (.cells #[.int .u8 (((Mur.u64n n) / 72057594037927936 % 256 : Nat) : Int), .int .u8 (((Mur.u64n n) / 281474976710656 % 256 : Nat) : Int), .int .u8 (((Mur.u64n n) / 1099511627776 % 256 : Nat) : Int), .int .u8 0, .int .u8 0, .int .u8 0, .int .u8 0, .int .u8 0] 127 (0, 0)) := hb4
 have zz4 := ch4.size
 refine rEnd 10 rfl (inN (nxt (reg ?_)))
 refine rQ 0 16 _ rfl rfl (qint64 (n := 2 + 1) (z := 3) (by omega) (by omega) (by omega)) ?_
 refine rP 1 4 (.int .i64 3) rfl rfl ?_
 refine rEnd 2 rfl (nxt (Wk.rdS (wp_seq (reg ?_))))
 refine rQ 0 5 _ rfl rfl (qboolT (b := decide ((3 : Int) < (8 : Int))) (decide_eq_true (by decide))) ?_
 refine rEnd 1 rfl (nxt (wp_seq (wp_cond_true (by kernel_rfl) (wp_skip (nxt (wp_seq (wp_block (wp_seq (reg ?_)))))))))
 refine rP 0 6 (.int .i64 3) rfl rfl ?_
 refine rP 1 3 (.int .i64 3) rfl rfl ?_
 refine rEnd 2 rfl (nxt (reg ?_))
 refine rP 0 7 (.int .i64 3) rfl rfl ?_
 refine rP 1 8 (.int .i64 n) rfl rfl ?_
 refine rQ 2 9 (.int .u64 ((Mur.u64n n : Nat) : Int)) rfl rfl (Mur.conv_u64n 3 26 (.tmp 8) rfl (by kernel_rfl) Tryd.underlying26 .i64 n (by kernel_rfl)) ?_
 refine rP 3 10 (.int .i64 3) rfl rfl ?_
 refine rQ 4 11 _ rfl rfl (qint64 (n := 8 * 3) (z := 24) (by omega) (by omega) (by omega)) ?_
 refine rQ 5 12 _ rfl rfl (qint64 (n := 56 - 24) (z := 32) (by omega) (by omega) (by omega)) ?_
 refine rQ 6 13 (.int .u64 (((Mur.u64n n) / 4294967296 : Nat) : Int)) rfl rfl (Mur.shr64 26 3 (.tmp 9) (.tmp 12) rfl (Mur.u64n n) 32 .i64 (by kernel_rfl) (by kernel_rfl) (by omega) 4294967296 rfl) ?_
 refine rQ 7 14 (.int .u8 (((Mur.u64n n) / 4294967296 % 256 : Nat) : Int)) rfl rfl (Mur.conv_u8 26 5 (.tmp 13) rfl (by kernel_rfl) Tryd.underlying5 .u64 ((Mur.u64n n) / 4294967296) (by kernel_rfl)) ?_
 refine rQ 8 15 (.pointer (some ⟨w.heap.size, 3, none⟩)) rfl rfl (Wk.index_arr 127 5 (.tmp 2) (.tmp 7) rfl 8 Tryd.underlying127 1 (by kernel_rfl) w.heap.size 0 3 .i64 (by kernel_rfl) (by kernel_rfl) (by decide)) ?_
 refine rY 9 rfl rfl (store1 5 (.tmp 15) (.tmp 14) rfl (by kernel_rfl) w.heap.size 3 (by kernel_rfl) (.int .u8 (((Mur.u64n n) / 4294967296 % 256 : Nat) : Int)) (by kernel_rfl) rfl 127 #[.int .u8 (((Mur.u64n n) / 72057594037927936 % 256 : Nat) : Int), .int .u8 (((Mur.u64n n) / 281474976710656 % 256 : Nat) : Int), .int .u8 (((Mur.u64n n) / 1099511627776 % 256 : Nat) : Int), .int .u8 0, .int .u8 0, .int .u8 0, .int .u8 0, .int .u8 0] hb4 (by simp)) ?_
 rintro W5 ⟨hb5, ch5⟩
 replace hb5 : W5.heap[w.heap.size]? = some (.cells #[.int .u8 (((Mur.u64n n) / 72057594037927936 % 256 : Nat) : Int), .int .u8 (((Mur.u64n n) / 281474976710656 % 256 : Nat) : Int), .int .u8 (((Mur.u64n n) / 1099511627776 % 256 : Nat) : Int), .int .u8 (((Mur.u64n n) / 4294967296 % 256 : Nat) : Int), .int .u8 0, .int .u8 0, .int .u8 0, .int .u8 0] 127 (0, 0)) := hb5
 have zz5 := ch5.size
 refine rEnd 10 rfl (inN (nxt (reg ?_)))
 refine rQ 0 16 _ rfl rfl (qint64 (n := 3 + 1) (z := 4) (by omega) (by omega) (by omega)) ?_
 refine rP 1 4 (.int .i64 4) rfl rfl ?_
 refine rEnd 2 rfl (nxt (Wk.rdS (wp_seq (reg ?_))))
 refine rQ 0 5 _ rfl rfl (qboolT (b := decide ((4 : Int) < (8 : Int))) (decide_eq_true (by decide))) ?_
 refine rEnd 1 rfl (nxt (wp_seq (wp_cond_true (by kernel_rfl) (wp_skip (nxt (wp_seq (wp_block (wp_seq (reg ?_)))))))))
 refine rP 0 6 (.int .i64 4) rfl rfl ?_
 refine rP 1 3 (.int .i64 4) rfl rfl ?_
 refine rEnd 2 rfl (nxt (reg ?_))
 refine rP 0 7 (.int .i64 4) rfl rfl ?_
 refine rP 1 8 (.int .i64 n) rfl rfl ?_
 refine rQ 2 9 (.int .u64 ((Mur.u64n n : Nat) : Int)) rfl rfl (Mur.conv_u64n 3 26 (.tmp 8) rfl (by kernel_rfl) Tryd.underlying26 .i64 n (by kernel_rfl)) ?_
 refine rP 3 10 (.int .i64 4) rfl rfl ?_
 refine rQ 4 11 _ rfl rfl (qint64 (n := 8 * 4) (z := 32) (by omega) (by omega) (by omega)) ?_
 refine rQ 5 12 _ rfl rfl (qint64 (n := 56 - 32) (z := 24) (by omega) (by omega) (by omega)) ?_
 refine rQ 6 13 (.int .u64 (((Mur.u64n n) / 16777216 : Nat) : Int)) rfl rfl (Mur.shr64 26 3 (.tmp 9) (.tmp 12) rfl (Mur.u64n n) 24 .i64 (by kernel_rfl) (by kernel_rfl) (by omega) 16777216 rfl) ?_
 refine rQ 7 14 (.int .u8 (((Mur.u64n n) / 16777216 % 256 : Nat) : Int)) rfl rfl (Mur.conv_u8 26 5 (.tmp 13) rfl (by kernel_rfl) Tryd.underlying5 .u64 ((Mur.u64n n) / 16777216) (by kernel_rfl)) ?_
 refine rQ 8 15 (.pointer (some ⟨w.heap.size, 4, none⟩)) rfl rfl (Wk.index_arr 127 5 (.tmp 2) (.tmp 7) rfl 8 Tryd.underlying127 1 (by kernel_rfl) w.heap.size 0 4 .i64 (by kernel_rfl) (by kernel_rfl) (by decide)) ?_
 refine rY 9 rfl rfl (store1 5 (.tmp 15) (.tmp 14) rfl (by kernel_rfl) w.heap.size 4 (by kernel_rfl) (.int .u8 (((Mur.u64n n) / 16777216 % 256 : Nat) : Int)) (by kernel_rfl) rfl 127 #[.int .u8 (((Mur.u64n n) / 72057594037927936 % 256 : Nat) : Int), .int .u8 (((Mur.u64n n) / 281474976710656 % 256 : Nat) : Int), .int .u8 (((Mur.u64n n) / 1099511627776 % 256 : Nat) : Int), .int .u8 (((Mur.u64n n) / 4294967296 % 256 : Nat) : Int), .int .u8 0, .int .u8 0, .int .u8 0, .int .u8 0] hb5 (by simp)) ?_
 rintro W6 ⟨hb6, ch6⟩
 replace hb6 : W6.heap[w.heap.size]? = some (.cells #[.int .u8 (((Mur.u64n n) / 72057594037927936 % 256 : Nat) : Int), .int .u8 (((Mur.u64n n) / 281474976710656 % 256 : Nat) : Int), .int .u8 (((Mur.u64n n) / 1099511627776 % 256 : Nat) : Int), .int .u8 (((Mur.u64n n) / 4294967296 % 256 : Nat) : Int), .int .u8 (((Mur.u64n n) / 16777216 % 256 : Nat) : Int), .int .u8 0, .int .u8 0, .int .u8 0] 127 (0, 0)) := hb6
 have zz6 := ch6.size
 refine rEnd 10 rfl (inN (nxt (reg ?_)))
 refine rQ 0 16 _ rfl rfl (qint64 (n := 4 + 1) (z := 5) (by omega) (by omega) (by omega)) ?_
 refine rP 1 4 (.int .i64 5) rfl rfl ?_
 refine rEnd 2 rfl (nxt (Wk.rdS (wp_seq (reg ?_))))
 refine rQ 0 5 _ rfl rfl (qboolT (b := decide ((5 : Int) < (8 : Int))) (decide_eq_true (by decide))) ?_
 refine rEnd 1 rfl (nxt (wp_seq (wp_cond_true (by kernel_rfl) (wp_skip (nxt (wp_seq (wp_block (wp_seq (reg ?_)))))))))
 refine rP 0 6 (.int .i64 5) rfl rfl ?_
 refine rP 1 3 (.int .i64 5) rfl rfl ?_
 refine rEnd 2 rfl (nxt (reg ?_))
 refine rP 0 7 (.int .i64 5) rfl rfl ?_
 refine rP 1 8 (.int .i64 n) rfl rfl ?_
 refine rQ 2 9 (.int .u64 ((Mur.u64n n : Nat) : Int)) rfl rfl (Mur.conv_u64n 3 26 (.tmp 8) rfl (by kernel_rfl) Tryd.underlying26 .i64 n (by kernel_rfl)) ?_
 refine rP 3 10 (.int .i64 5) rfl rfl ?_
 refine rQ 4 11 _ rfl rfl (qint64 (n := 8 * 5) (z := 40) (by omega) (by omega) (by omega)) ?_
 refine rQ 5 12 _ rfl rfl (qint64 (n := 56 - 40) (z := 16) (by omega) (by omega) (by omega)) ?_
 refine rQ 6 13 (.int .u64 (((Mur.u64n n) / 65536 : Nat) : Int)) rfl rfl (Mur.shr64 26 3 (.tmp 9) (.tmp 12) rfl (Mur.u64n n) 16 .i64 (by kernel_rfl) (by kernel_rfl) (by omega) 65536 rfl) ?_
 refine rQ 7 14 (.int .u8 (((Mur.u64n n) / 65536 % 256 : Nat) : Int)) rfl rfl (Mur.conv_u8 26 5 (.tmp 13) rfl (by kernel_rfl) Tryd.underlying5 .u64 ((Mur.u64n n) / 65536) (by kernel_rfl)) ?_
 refine rQ 8 15 (.pointer (some ⟨w.heap.size, 5, none⟩)) rfl rfl (Wk.index_arr 127 5 (.tmp 2) (.tmp 7) rfl 8 Tryd.underlying127 1 (by kernel_rfl) w.heap.size 0 5 .i64 (by kernel_rfl) (by kernel_rfl) (by decide)) ?_
 refine rY 9 rfl rfl (store1 5 (.tmp 15) (.tmp 14) rfl (by kernel_rfl) w.heap.size 5 (by kernel_rfl) (.int .u8 (((Mur.u64n n) / 65536 % 256 : Nat) : Int)) (by kernel_rfl) rfl 127 #[.int .u8 (((Mur.u64n n) / 72057594037927936 % 256 : Nat) : Int), .int .u8 (((Mur.u64n n) / 281474976710656 % 256 : Nat) : Int), .int .u8 (((Mur.u64n n) / 1099511627776 % 256 : Nat) : Int), .int .u8 (((Mur.u64n n) / 4294967296 % 256 : Nat) : Int), .int .u8 (((Mur.u64n n) / 16777216 % 256 : Nat) : Int), .int .u8 0, .int .u8 0, .int .u8 0] hb6 (by simp)) ?_
 rintro W7 ⟨hb7, ch7⟩
 replace hb7 : W7.heap[w.heap.size]? = some (.cells #[.int .u8 (((Mur.u64n n) / 72057594037927936 % 256 : Nat) : Int), .int .u8 (((Mur.u64n n) / 281474976710656 % 256 : Nat) : Int), .int .u8 (((Mur.u64n n) / 1099511627776 % 256 : Nat) : Int), .int .u8 (((Mur.u64n n) / 4294967296 % 256 : Nat) : Int), .int .u8 (((Mur.u64n n) / 16777216 % 256 : Nat) : Int), .int .u8 (((Mur.u64n n) / 65536 % 256 : Nat) : Int), .int .u8 0, .int .u8 0] 127 (0, 0)) := hb7
 have zz7 := ch7.size
 refine rEnd 10 rfl (inN (nxt (reg ?_)))
 refine rQ 0 16 _ rfl rfl (qint64 (n := 5 + 1) (z := 6) (by omega) (by omega) (by omega)) ?_
 refine rP 1 4 (.int .i64 6) rfl rfl ?_
 refine rEnd 2 rfl (nxt (Wk.rdS (wp_seq (reg ?_))))
 refine rQ 0 5 _ rfl rfl (qboolT (b := decide ((6 : Int) < (8 : Int))) (decide_eq_true (by decide))) ?_
 refine rEnd 1 rfl (nxt (wp_seq (wp_cond_true (by kernel_rfl) (wp_skip (nxt (wp_seq (wp_block (wp_seq (reg ?_)))))))))
 refine rP 0 6 (.int .i64 6) rfl rfl ?_
 refine rP 1 3 (.int .i64 6) rfl rfl ?_
 refine rEnd 2 rfl (nxt (reg ?_))
 refine rP 0 7 (.int .i64 6) rfl rfl ?_
 refine rP 1 8 (.int .i64 n) rfl rfl ?_
 refine rQ 2 9 (.int .u64 ((Mur.u64n n : Nat) : Int)) rfl rfl (Mur.conv_u64n 3 26 (.tmp 8) rfl (by kernel_rfl) Tryd.underlying26 .i64 n (by kernel_rfl)) ?_
 refine rP 3 10 (.int .i64 6) rfl rfl ?_
 refine rQ 4 11 _ rfl rfl (qint64 (n := 8 * 6) (z := 48) (by omega) (by omega) (by omega)) ?_
 refine rQ 5 12 _ rfl rfl (qint64 (n := 56 - 48) (z := 8) (by omega) (by omega) (by omega)) ?_
 refine rQ 6 13 (.int .u64 (((Mur.u64n n) / 256 : Nat) : Int)) rfl rfl (Mur.shr64 26 3 (.tmp 9) (.tmp 12) rfl (Mur.u64n n) 8 .i64 (by kernel_rfl) (by kernel_rfl) (by omega) 256 rfl) ?_
 refine rQ 7 14 (.int .u8 (((Mur.u64n n) / 256 % 256 : Nat) : Int)) rfl rfl (Mur.conv_u8 26 5 (.tmp 13) rfl (by kernel_rfl) Tryd.underlying5 .u64 ((Mur.u64n n) / 256) (by kernel_rfl)) ?_
 refine rQ 8 15 (.pointer (some ⟨w.heap.size, 6, none⟩)) rfl rfl (Wk.index_arr 127 5 (.tmp 2) (.tmp 7) rfl 8 Tryd.underlying127 1 (by kernel_rfl) w.heap.size 0 6 .i64 (by kernel_rfl) (by kernel_rfl) (by decide)) ?_
 refine rY 9 rfl rfl (store1 5 (.tmp 15) (.tmp 14) rfl (by kernel_rfl) w.heap.size 6 (by kernel_rfl) (.int .u8 (((Mur.u64n n) / 256 % 256 : Nat) : Int)) (by kernel_rfl) rfl 127 #[.int .u8 (((Mur.u64n n) / 72057594037927936 % 256 : Nat) : Int), .int .u8 (((Mur.u64n n) / 281474976710656 % 256 : Nat) : Int), .int .u8 (((Mur.u64n n) / 1099511627776 % 256 : Nat) : Int), .int .u8 (((Mur.u64n n) / 4294967296 % 256 : Nat) : Int), .int .u8 (((Mur.u64n n) / 16777216 % 256 : Nat) : Int), .int .u8 (((Mur.u64n n) / 65536 % 256 : Nat) : Int), .int .u8 0, .int .u8 0] hb7 (by simp)) ?_
 rintro W8 ⟨hb8, ch8⟩
 replace hb8 : W8.heap[w.heap.size]? = some (.cells #[.int .u8 (((Mur.u64n n) / 72057594037927936 % 256 : Nat) : Int), .int .u8 (((Mur.u64n n) / 281474976710656 % 256 : Nat) : Int), .int .u8 (((Mur.u64n n) / 1099511627776 % 256 : Nat) : Int), .int .u8 (((Mur.u64n n) / 4294967296 % 256 : Nat) : Int), .int .u8 (((Mur.u64n n) / 16777216 % 256 : Nat) : Int), .int .u8 (((Mur.u64n n) / 65536 % 256 : Nat) : Int), .int .u8 (((Mur.u64n n) / 256 % 256 : Nat) : Int), .int .u8 0] 127 (0, 0)) := hb8
 have zz8 := ch8.size
 refine rEnd 10 rfl (inN (nxt (reg ?_)))
 refine rQ 0 16 _ rfl rfl (qint64 (n := 6 + 1) (z := 7) (by omega) (by omega) (by omega)) ?_
 refine rP 1 4 (.int .i64 7) rfl rfl ?_
 refine rEnd 2 rfl (nxt (Wk.rdS (wp_seq (reg ?_))))
 refine rQ 0 5 _ rfl rfl (qboolT (b := decide ((7 : Int) < (8 : Int))) (decide_eq_true (by decide))) ?_
 refine rEnd 1 rfl (nxt (wp_seq (wp_cond_true (by kernel_rfl) (wp_skip (nxt (wp_seq (wp_block (wp_seq (reg ?_)))))))))
 refine rP 0 6 (.int .i64 7) rfl rfl ?_
 refine rP 1 3 (.int .i64 7) rfl rfl ?_
 refine rEnd 2 rfl (nxt (reg ?_))
 refine rP 0 7 (.int .i64 7) rfl rfl ?_
 refine rP 1 8 (.int .i64 n) rfl rfl ?_
 refine rQ 2 9 (.int .u64 ((Mur.u64n n : Nat) : Int)) rfl rfl (Mur.conv_u64n 3 26 (.tmp 8) rfl (by kernel_rfl) Tryd.underlying26 .i64 n (by kernel_rfl)) ?_
 refine rP 3 10 (.int .i64 7) rfl rfl ?_
 refine rQ 4 11 _ rfl rfl (qint64 (n := 8 * 7) (z := 56) (by omega) (by omega) (by omega)) ?_
 refine rQ 5 12 _ rfl rfl (qint64 (n := 56 - 56) (z := 0) (by omega) (by omega) (by omega)) ?_
 refine rQ 6 13 (.int .u64 (((Mur.u64n n) / 1 : Nat) : Int)) rfl rfl (Mur.shr64 26 3 (.tmp 9) (.tmp 12) rfl (Mur.u64n n) 0 .i64 (by kernel_rfl) (by kernel_rfl) (by omega) 1 rfl) ?_
 refine rQ 7 14 (.int .u8 (((Mur.u64n n) / 1 % 256 : Nat) : Int)) rfl rfl (Mur.conv_u8 26 5 (.tmp 13) rfl (by kernel_rfl) Tryd.underlying5 .u64 ((Mur.u64n n) / 1) (by kernel_rfl)) ?_
 refine rQ 8 15 (.pointer (some ⟨w.heap.size, 7, none⟩)) rfl rfl (Wk.index_arr 127 5 (.tmp 2) (.tmp 7) rfl 8 Tryd.underlying127 1 (by kernel_rfl) w.heap.size 0 7 .i64 (by kernel_rfl) (by kernel_rfl) (by decide)) ?_
 refine rY 9 rfl rfl (store1 5 (.tmp 15) (.tmp 14) rfl (by kernel_rfl) w.heap.size 7 (by kernel_rfl) (.int .u8 (((Mur.u64n n) / 1 % 256 : Nat) : Int)) (by kernel_rfl) rfl 127 #[.int .u8 (((Mur.u64n n) / 72057594037927936 % 256 : Nat) : Int), .int .u8 (((Mur.u64n n) / 281474976710656 % 256 : Nat) : Int), .int .u8 (((Mur.u64n n) / 1099511627776 % 256 : Nat) : Int), .int .u8 (((Mur.u64n n) / 4294967296 % 256 : Nat) : Int), .int .u8 (((Mur.u64n n) / 16777216 % 256 : Nat) : Int), .int .u8 (((Mur.u64n n) / 65536 % 256 : Nat) : Int), .int .u8 (((Mur.u64n n) / 256 % 256 : Nat) : Int), .int .u8 0] hb8 (by simp)) ?_
 rintro W9 ⟨hb9, ch9⟩
 replace hb9 : W9.heap[w.heap.size]? = some (.cells #[.int .u8 (((Mur.u64n n) / 72057594037927936 % 256 : Nat) : Int), .int .u8 (((Mur.u64n n) / 281474976710656 % 256 : Nat) : Int), .int .u8 (((Mur.u64n n) / 1099511627776 % 256 : Nat) : Int), .int .u8 (((Mur.u64n n) / 4294967296 % 256 : Nat) : Int), .int .u8 (((Mur.u64n n) / 16777216 % 256 : Nat) : Int), .int .u8 (((Mur.u64n n) / 65536 % 256 : Nat) : Int), .int .u8 (((Mur.u64n n) / 256 % 256 : Nat) : Int), .int .u8 (((Mur.u64n n) / 1 % 256 : Nat) : Int)] 127 (0, 0)) := hb9
 have zz9 := ch9.size
 refine rEnd 10 rfl (inN (nxt (reg ?_)))
 refine rQ 0 16 _ rfl rfl (qint64 (n := 7 + 1) (z := 8) (by omega) (by omega) (by omega)) ?_
 refine rP 1 4 (.int .i64 8) rfl rfl ?_
 refine rEnd 2 rfl (nxt (Wk.rdS (wp_seq (reg ?_))))
 refine rQ 0 5 _ rfl rfl (qboolF (b := decide ((8 : Int) < (8 : Int))) (decide_eq_false (by decide))) ?_
 refine rEnd 1 rfl (nxt (wp_seq (wp_cond_false (by kernel_rfl) (wp_exit (thX (thX (inX (nxt (wp_seq (reg ?_))))))))))
 refine rQ 0 17 (.agg #[.int .u8 (((Mur.u64n n) / 72057594037927936 % 256 : Nat) : Int), .int .u8 (((Mur.u64n n) / 281474976710656 % 256 : Nat) : Int), .int .u8 (((Mur.u64n n) / 1099511627776 % 256 : Nat) : Int), .int .u8 (((Mur.u64n n) / 4294967296 % 256 : Nat) : Int), .int .u8 (((Mur.u64n n) / 16777216 % 256 : Nat) : Int), .int .u8 (((Mur.u64n n) / 65536 % 256 : Nat) : Int), .int .u8 (((Mur.u64n n) / 256 % 256 : Nat) : Int), .int .u8 (((Mur.u64n n) / 1 % 256 : Nat) : Int)]) rfl rfl (loadR 127 (.tmp 2) rfl _ Tryd.underlying127 rfl w.heap.size 0 (by kernel_rfl) ([.int .u8 (((Mur.u64n n) / 72057594037927936 % 256 : Nat) : Int), .int .u8 (((Mur.u64n n) / 281474976710656 % 256 : Nat) : Int), .int .u8 (((Mur.u64n n) / 1099511627776 % 256 : Nat) : Int), .int .u8 (((Mur.u64n n) / 4294967296 % 256 : Nat) : Int), .int .u8 (((Mur.u64n n) / 16777216 % 256 : Nat) : Int), .int .u8 (((Mur.u64n n) / 65536 % 256 : Nat) : Int), .int .u8 (((Mur.u64n n) / 256 % 256 : Nat) : Int), .int .u8 (((Mur.u64n n) / 1 % 256 : Nat) : Int)]) (by kernel_rfl) (range_row hb9)) ?_
 refine rY 1 rfl rfl (Wk.storeR 127 (.tmp 2) (.tmp 17) rfl w.heap.size 0 (by kernel_rfl) ([.int .u8 (((Mur.u64n n) / 72057594037927936 % 256 : Nat) : Int), .int .u8 (((Mur.u64n n) / 281474976710656 % 256 : Nat) : Int), .int .u8 (((Mur.u64n n) / 1099511627776 % 256 : Nat) : Int), .int .u8 (((Mur.u64n n) / 4294967296 % 256 : Nat) : Int), .int .u8 (((Mur.u64n n) / 16777216 % 256 : Nat) : Int), .int .u8 (((Mur.u64n n) / 65536 % 256 : Nat) : Int), .int .u8 (((Mur.u64n n) / 256 % 256 : Nat) : Int), .int .u8 (((Mur.u64n n) / 1 % 256 : Nat) : Int)]) (by kernel_rfl) (by kernel_rfl) (by intro v hv; simp at hv; rcases hv with h | h | h | h | h | h | h | h <;> (subst h; rfl)) 127 ([.int .u8 (((Mur.u64n n) / 72057594037927936 % 256 : Nat) : Int), .int .u8 (((Mur.u64n n) / 281474976710656 % 256 : Nat) : Int), .int .u8 (((Mur.u64n n) / 1099511627776 % 256 : Nat) : Int), .int .u8 (((Mur.u64n n) / 4294967296 % 256 : Nat) : Int), .int .u8 (((Mur.u64n n) / 16777216 % 256 : Nat) : Int), .int .u8 (((Mur.u64n n) / 65536 % 256 : Nat) : Int), .int .u8 (((Mur.u64n n) / 256 % 256 : Nat) : Int), .int .u8 (((Mur.u64n n) / 1 % 256 : Nat) : Int)]) hb9 (by simp)) ?_
 rintro W10 ⟨hb10, ch10⟩
 replace hb10 : W10.heap[w.heap.size]? = some (.cells #[.int .u8 (((Mur.u64n n) / 72057594037927936 % 256 : Nat) : Int), .int .u8 (((Mur.u64n n) / 281474976710656 % 256 : Nat) : Int), .int .u8 (((Mur.u64n n) / 1099511627776 % 256 : Nat) : Int), .int .u8 (((Mur.u64n n) / 4294967296 % 256 : Nat) : Int), .int .u8 (((Mur.u64n n) / 16777216 % 256 : Nat) : Int), .int .u8 (((Mur.u64n n) / 65536 % 256 : Nat) : Int), .int .u8 (((Mur.u64n n) / 256 % 256 : Nat) : Int), .int .u8 (((Mur.u64n n) / 1 % 256 : Nat) : Int)] 127 (0, 0)) := hb10
 have zz10 := ch10.size
 refine rEnd 2 rfl (nxt (wp_ret ?_))
 have kk1 : Chg [] w W1 := Chg.step ((Chg.refl _).more (by simp)) ch1 trivial
 have kk2 := Chg.step kk1 ch2 ⟨.inr (by omega), trivial⟩
 have kk3 := Chg.step kk2 ch3 ⟨.inr (by omega), trivial⟩
 have kk4 := Chg.step kk3 ch4 ⟨.inr (by omega), trivial⟩
 have kk5 := Chg.step kk4 ch5 ⟨.inr (by omega), trivial⟩
 have kk6 := Chg.step kk5 ch6 ⟨.inr (by omega), trivial⟩
 have kk7 := Chg.step kk6 ch7 ⟨.inr (by omega), trivial⟩
 have kk8 := Chg.step kk7 ch8 ⟨.inr (by omega), trivial⟩
 have kk9 := Chg.step kk8 ch9 ⟨.inr (by omega), trivial⟩
 have kk10 := Chg.step kk9 ch10 ⟨.inr (by omega), trivial⟩
 refine Wk.ret (.agg #[.int .u8 (((Mur.u64n n) / 72057594037927936 % 256 : Nat) : Int), .int .u8 (((Mur.u64n n) / 281474976710656 % 256 : Nat) : Int), .int .u8 (((Mur.u64n n) / 1099511627776 % 256 : Nat) : Int), .int .u8 (((Mur.u64n n) / 4294967296 % 256 : Nat) : Int), .int .u8 (((Mur.u64n n) / 16777216 % 256 : Nat) : Int), .int .u8 (((Mur.u64n n) / 65536 % 256 : Nat) : Int), .int .u8 (((Mur.u64n n) / 256 % 256 : Nat) : Int), .int .u8 (((Mur.u64n n) / 1 % 256 : Nat) : Int)]) rfl (results_cell_row rfl _ _ w.heap.size 127 #[.int .u8 (((Mur.u64n n) / 72057594037927936 % 256 : Nat) : Int), .int .u8 (((Mur.u64n n) / 281474976710656 % 256 : Nat) : Int), .int .u8 (((Mur.u64n n) / 1099511627776 % 256 : Nat) : Int), .int .u8 (((Mur.u64n n) / 4294967296 % 256 : Nat) : Int), .int .u8 (((Mur.u64n n) / 16777216 % 256 : Nat) : Int), .int .u8 (((Mur.u64n n) / 65536 % 256 : Nat) : Int), .int .u8 (((Mur.u64n n) / 256 % 256 : Nat) : Int), .int .u8 (((Mur.u64n n) / 1 % 256 : Nat) : Int)] (0, 0) _ (by kernel_rfl) hb10 Tryd.underlying127 rfl (by kernel_rfl)) ?_
 exact ⟨_, Go.Lib.hid rfl, Mur.e8_length _, by rw [Mur.e8_cells], kk10⟩
end Go.Proofs.YtfhneademopciaaDoor
namespace Go.Proofs.YtfhneademopciaaDoor
open Go.RowKit Wk
open Mur (b8s Byt Own8 Seg Segs flat cutA attC)
set_option maxRecDepth 100000
set_option maxHeartbeats 4000000
theorem Reight_any (n : Int) (w : World) : Calls Tryd.prog 71 #[.int .i64 n] w fun e w' => ∃ q E, Hid (E = Mur.e8 (Mur.u64n n)) ∧ e = .returned (.slice (some ⟨q, 0, none⟩) 8 8) ∧ Byt w' (some ⟨q, 0, none⟩) 8 E ∧ (w.heap.size ≤ q ∧ q < w'.heap.size) ∧ Chg [] w w' := by
 refine calls_of_wp Tryd.func71 rfl ?_
 refine wp_seq (reg ?_)
 refine rP 0 2 (.slice none 0 0) rfl rfl ?_
 refine rEnd 1 rfl (nxt (wp_seq (reg ?_)))
 refine rP 0 6 (.int .i64 n) rfl rfl ?_
 refine rQ 1 7 (.int .u64 ((Mur.u64n n : Nat) : Int)) rfl rfl (Mur.conv_u64n 3 26 (.tmp 6) rfl (by kernel_rfl) Tryd.underlying26 .i64 n (by kernel_rfl)) ?_
 refine rP 2 3 (.int .u64 ((Mur.u64n n : Nat) : Int)) rfl rfl ?_
 refine rEnd 3 rfl (nxt (wp_seq (reg ?_)))
 refine rX 0 8 rfl rfl (new_ex (.slice (some ⟨w.heap.size, 0, none⟩) 8 8) #[.int .u8 0, .int .u8 0, .int .u8 0, .int .u8 0, .int .u8 0, .int .u8 0, .int .u8 0, .int .u8 0] 5 (by kernel_rfl)) ?_
 rintro _ W1 ⟨rfl, hb1, ch1, sz1⟩
 have zz1 := ch1.size
 refine rP 1 4 (.slice (some ⟨w.heap.size, 0, none⟩) 8 8) rfl rfl ?_
 refine rEnd 2 rfl (nxt (wp_seq (wp_seq (reg ?_))))
 refine rP 0 5 (.int .i64 7) rfl rfl ?_
 refine rEnd 1 rfl (nxt (wp_block ?_))
 refine Wk.loopN 9 ?_
 refine Wk.rdS (wp_seq (wp_seq (reg ?_)))
 refine rP 0 9 (.int .i64 7) rfl rfl ?_
 refine rQ 1 10 _ rfl rfl (qboolT (b := decide ((7 : Int) ≥ (0 : Int))) (decide_eq_true (by decide))) ?_
 refine rEnd 2 rfl (nxt (wp_cond_true (by kernel_rfl) (wp_skip (nxt (wp_seq (wp_block (wp_seq (reg ?_))))))))
 refine rP 0 13 (.slice (some ⟨w.heap.size, 0, none⟩) 8 8) rfl rfl ?_
 refine rP 1 14 (.int .i64 7) rfl rfl ?_
 refine rP 2 15 (.int .u64 ((Mur.u64n n : Nat) : Int)) rfl rfl ?_
 refine rQ 3 16 (.int .u64 ((Mur.u64n n % 256 : Nat) : Int)) rfl rfl (Mur.rem_u64 26 26 (.tmp 15) (.const (.int .u64 256)) rfl (Mur.u64n n) 256 (by kernel_rfl) (by kernel_rfl) (by omega)) ?_
 refine rQ 4 17 (.int .u8 ((Mur.u64n n % 256 : Nat) : Int)) rfl rfl (Mur.conv_int 26 5 (.tmp 16) rfl (by kernel_rfl) .u8 Tryd.underlying5 .u64 ((Mur.u64n n % 256 : Nat) : Int) (by kernel_rfl) (by rw [Mur.u8_mod]; omega)) ?_
 refine rQ 5 18 (.pointer (some ⟨w.heap.size, 7, none⟩)) rfl rfl (index_sl 38 5 (.tmp 13) (.tmp 14) rfl Tryd.underlying38 1 (by kernel_rfl) w.heap.size 0 8 8 7 .i64 (by kernel_rfl) (by kernel_rfl) (by omega)) ?_
 refine rY 6 rfl rfl (store1 5 (.tmp 18) (.tmp 17) rfl (by kernel_rfl) w.heap.size 7 (by kernel_rfl) (.int .u8 ((Mur.u64n n % 256 : Nat) : Int)) (by kernel_rfl) rfl 5 #[.int .u8 0, .int .u8 0, .int .u8 0, .int .u8 0, .int .u8 0, .int .u8 0, .int .u8 0, .int .u8 0] hb1 (by simp)) ?_
 rintro W2 ⟨hb2, ch2⟩
 replace hb2 : W2.heap[w.heap.size]? = some (.cells #[.int .u8 0, .int .u8 0, .int .u8 0, .int .u8 0, .int .u8 0, .int .u8 0, .int .u8 0, .int .u8 ((Mur.u64n n % 256 : Nat) : Int)] 5 (0, 0)) := hb2
 have zz2 := ch2.size
 refine rEnd 7 rfl (nxt (reg ?_))
 refine rP 0 19 (.int .u64 ((Mur.u64n n : Nat) : Int)) rfl rfl ?_
 refine rQ 1 20 (.int .u64 ((Mur.u64n n / 256 : Nat) : Int)) rfl rfl (Mur.quo_u64 26 26 (.tmp 19) (.const (.int .u64 256)) rfl (Mur.u64n n) 256 (by kernel_rfl) (by kernel_rfl) (by omega) (by have := Mur.u64n_lt n; omega)) ?_
 refine rP 2 3 (.int .u64 ((Mur.u64n n / 256 : Nat) : Int)) rfl rfl ?_
 refine rEnd 3 rfl (inN (nxt (reg ?_)))
 refine rP 0 11 (.int .i64 7) rfl rfl ?_
 refine rQ 1 12 _ rfl rfl (qint64 (n := 7 - 1) (z := 6) (by omega) (by omega) (by omega)) ?_
 refine rP 2 5 (.int .i64 6) rfl rfl ?_
 refine rEnd 3 rfl (nxt (Wk.rdS (wp_seq (wp_seq (reg ?_)))))
 refine rP 0 9 (.int .i64 6) rfl rfl ?_
 refine rQ 1 10 _ rfl rfl (qboolT (b := decide ((6 : Int) ≥ (0 : Int))) (decide_eq_true (by decide))) ?_
 refine rEnd 2 rfl (nxt (wp_cond_true (by kernel_rfl) (wp_skip (nxt (wp_seq (wp_block (wp_seq (reg ?_))))))))
 refine rP 0 13 (.slice (some ⟨w.heap.size, 0, none⟩) 8 8) rfl rfl ?_
 refine rP 1 14 (.int .i64 6) rfl rfl ?_
 refine rP 2 15 (.int .u64 ((Mur.u64n n / 256 : Nat) : Int)) rfl rfl ?_
 refine rQ 3 16 (.int .u64 ((Mur.u64n n / 256 % 256 : Nat) : Int)) rfl rfl (Mur.rem_u64 26 26 (.tmp 15) (.const (.int .u64 256)) rfl (Mur.u64n n / 256) 256 (by kernel_rfl) (by kernel_rfl) (by omega)) ?_
 refine rQ 4 17 (.int .u8 ((Mur.u64n n / 256 % 256 : Nat) : Int)) rfl rfl (Mur.conv_int 26 5 (.tmp 16) rfl (by kernel_rfl) .u8 Tryd.underlying5 .u64 ((Mur.u64n n / 256 % 256 : Nat) : Int) (by kernel_rfl) (by rw [Mur.u8_mod]; omega)) ?_
 refine rQ 5 18 (.pointer (some ⟨w.heap.size, 6, none⟩)) rfl rfl (index_sl 38 5 (.tmp 13) (.tmp 14) rfl Tryd.underlying38 1 (by kernel_rfl) w.heap.size 0 8 8 6 .i64 (by kernel_rfl) (by kernel_rfl) (by omega)) ?_
 refine rY 6 rfl rfl (store1 5 (.tmp 18) (.tmp 17) rfl (by kernel_rfl) w.heap.size 6 (by kernel_rfl) (.int .u8 ((Mur.u64n n / 256 % 256 : Nat) : Int)) (by kernel_rfl) rfl 5 #[.int .u8 0, .int .u8 0, .int .u8 0, .int .u8 0, .int .u8 0, .int .u8 0, .int .u8 0, .int .u8 ((Mur.u64n n % 256 : Nat) : Int)] hb2 (by simp)) ?_
 rintro W3 ⟨hb3, ch3⟩
 replace hb3 : W3.heap[w.heap.size]? = some (.cells #[.int .u8 0, .int .u8 0, .int .u8 0, .int .u8 0, .int .u8 0, .int .u8 0, .int .u8 ((Mur.u64n n / 256 % 256 : Nat) : Int), .int .u8 ((Mur.u64n n % 256 : Nat) : Int)] 5 (0, 0)) := hb3
 have zz3 := ch3.size
 refine rEnd 7 rfl (nxt (reg ?_))
 refine rP 0 19 (.int .u64 ((Mur.u64n n / 256 : Nat) : Int)) rfl rfl ?_
 refine rQ 1 20 (.int .u64 ((Mur.u64n n / 256 / 256 : Nat) : Int)) rfl rfl (Mur.quo_u64 26 26 (.tmp 19) (.const (.int .u64 256)) rfl (Mur.u64n n / 256) 256 (by kernel_rfl) (by kernel_rfl) (by omega) (by have := Mur.u64n_lt n; omega)) ?_
 refine rP 2 3 (.int .u64 ((Mur.u64n n / 256 / 256 : Nat) : Int)) rfl rfl ?_
 refine rEnd 3 rfl (inN (nxt (reg ?_)))
 refine rP 0 11 (.int .i64 6) rfl rfl ?_
 refine rQ 1 12 _ rfl rfl (qint64 (n := 6 - 1) (z := 5) (by omega) (by omega) (by omega)) ?_
 refine rP 2 5 (.int .i64 5) rfl rfl ?_
 refine rEnd 3 rfl (nxt (Wk.rdS (wp_seq (wp_seq (reg ?_)))))
 refine rP 0 9 (.int .i64 5) rfl rfl ?_
 refine rQ 1 10 _ rfl rfl (qboolT (b := decide ((5 : Int) ≥ (0 : Int))) (decide_eq_true (by decide))) ?_
 refine rEnd 2 rfl (nxt (wp_cond_true (by kernel_rfl) (wp_skip (nxt (wp_seq (wp_block (wp_seq (reg ?_))))))))
 refine rP 0 13 (.slice (some ⟨w.heap.size, 0, none⟩) 8 8) rfl rfl ?_
 refine rP 1 14 (.int .i64 5) rfl rfl ?_
 refine rP 2 15 (.int .u64 ((Mur.u64n n / 256 / 256 : Nat) : Int)) rfl rfl ?_
 refine rQ 3 16 (.int .u64 ((Mur.u64n n / 256 / 256 % 256 : Nat) : Int)) rfl rfl (Mur.rem_u64 26 26 (.tmp 15) (.const (.int .u64 256)) rfl (Mur.u64n n / 256 / 256) 256 (by kernel_rfl) (by kernel_rfl) (by omega)) ?_
 refine rQ 4 17 (.int .u8 ((Mur.u64n n / 256 / 256 % 256 : Nat) : Int)) rfl rfl (Mur.conv_int 26 5 (.tmp 16) rfl (by kernel_rfl) .u8 Tryd.underlying5 .u64 ((Mur.u64n n / 256 / 256 % 256 : Nat) : Int) (by kernel_rfl) (by rw [Mur.u8_mod]; omega)) ?_
 refine rQ 5 18 (.pointer (some ⟨w.heap.size, 5, none⟩)) rfl rfl (index_sl 38 5 (.tmp 13) (.tmp 14) rfl Tryd.underlying38 1 (by kernel_rfl) w.heap.size 0 8 8 5 .i64 (by kernel_rfl) (by kernel_rfl) (by omega)) ?_
 refine rY 6 rfl rfl (store1 5 (.tmp 18) (.tmp 17) rfl (by kernel_rfl) w.heap.size 5 (by kernel_rfl) (.int .u8 ((Mur.u64n n / 256 / 256 % 256 : Nat) : Int)) (by kernel_rfl) rfl 5 #[.int .u8 0, .int .u8 0, .int .u8 0, .int .u8 0, .int .u8 0, .int .u8 0, .int .u8 ((Mur.u64n n / 256 % 256 : Nat) : Int), .int .u8 ((Mur.u64n n % 256 : Nat) : Int)] hb3 (by simp)) ?_
 rintro W4 ⟨hb4, ch4⟩
 replace hb4 : W4.heap[w.heap.size]? = some (.cells #[.int .u8 0, .int .u8 0, .int .u8 0, .int .u8 0, .int .u8 0, .int .u8 ((Mur.u64n n / 256 / 256 % 256 : Nat) : Int), .int .u8 ((Mur.u64n n / 256 % 256 : Nat) : Int), .int .u8 ((Mur.u64n n % 256 : Nat) : Int)] 5 (0, 0)) := hb4
 have zz4 := ch4.size
 refine rEnd 7 rfl (nxt (reg ?_))
 refine rP 0 19 (.int .u64 ((Mur.u64n n / 256 / 256 : Nat) : Int)) rfl rfl ?_
 refine rQ 1 20 (.int .u64 ((Mur.u64n n / 256 / 256 / 256 : Nat) : Int)) rfl rfl (Mur.quo_u64 26 26 (.tmp 19) (.const (.int .u64 256)) rfl (Mur.u64n n / 256 / 256) 256 (by kernel_rfl) (by kernel_rfl) (by omega) (by have := Mur.u64n_lt n; omega)) ?_
 refine rP 2 3 (.int .u64 ((Mur.u64n n / 256 / 256 / 256 : Nat) : Int)) rfl rfl ?_
 refine rEnd 3 rfl (inN (nxt (reg ?_)))
 refine rP 0 11 (.int .i64 5) rfl rfl ?_
 refine rQ 1 12 _ rfl rfl (qint64 (n := 5 - 1) (z := 4) (by omega) (by omega) (by omega)) ?_
 refine rP 2 5 (.int .i64 4) rfl rfl ?_
 refine rEnd 3 rfl (nxt (Wk.rdS (wp_seq (wp_seq (reg ?_)))))
 refine rP 0 9 (.int .i64 4) rfl rfl ?_
 refine rQ 1 10 _ rfl rfl (qboolT (b := decide ((4 : Int) ≥ (0 : Int))) (decide_eq_true (by decide))) ?_
 refine rEnd 2 rfl (nxt (wp_cond_true (by kernel_rfl) (wp_skip (nxt (wp_seq (wp_block (wp_seq (reg ?_))))))))
 refine rP 0 13 (.slice (some ⟨w.heap.size, 0, none⟩) 8 8) rfl rfl ?_
 refine rP 1 14 (.int .i64 4) rfl rfl ?_
 refine rP 2 15 (.int .u64 ((Mur.u64n n / 256 / 256 / 256 : Nat) : Int)) rfl rfl ?_
 refine rQ 3 16 (.int .u64 ((Mur.u64n n / 256 / 256 / 256 % 256 : Nat) : Int)) rfl rfl (Mur.rem_u64 26 26 (.tmp 15) (.const (.int .u64 256)) rfl (Mur.u64n n / 256 / 256 / 256) 256 (by kernel_rfl) (by kernel_rfl) (by omega)) ?_
 refine rQ 4 17 (.int .u8 ((Mur.u64n n / 256 / 256 / 256 % 256 : Nat) : Int)) rfl rfl (Mur.conv_int 26 5 (.tmp 16) rfl (by kernel_rfl) .u8 Tryd.underlying5 .u64 ((Mur.u64n n / 256 / 256 / 256 % 256 : Nat) : Int) (by kernel_rfl) (by rw [Mur.u8_mod]; omega)) ?_
 refine rQ 5 18 (.pointer (some ⟨w.heap.size, 4, none⟩)) rfl rfl (index_sl 38 5 (.tmp 13) (.tmp 14) rfl Tryd.underlying38 1 (by kernel_rfl) w.heap.size 0 8 8 4 .i64 (by kernel_rfl) (by kernel_rfl) (by omega)) ?_
 refine rY 6 rfl rfl (store1 5 (.tmp 18) (.tmp 17) rfl (by kernel_rfl) w.heap.size 4 (by kernel_rfl) (.int .u8 ((Mur.u64n n / 256 / 256 / 256 % 256 : Nat) : Int)) (by kernel_rfl) rfl 5 #[.int .u8 0, .int .u8 0, .int .u8 0, .int .u8 0, .int .u8 0, .int .u8 ((Mur.u64n n / 256 / 256 % 256 : Nat) : Int), .int .u8 ((Mur.u64n n / 256 % 256 : Nat) : Int), .int .u8 ((Mur.u64n n % 256 : Nat) : Int)] hb4 (by simp)) ?_
 rintro W5 ⟨hb5, ch5⟩
 replace hb5 : W5.heap[w.heap.size]? = some (.cells #[.int .u8 0, .int .u8 0, .int .u8 0, .int .u8 0, .int .u8 ((Mur.u64n n / 256 / 256 / 256 % 256 : Nat) : Int), .int .u8 ((Mur.u64n n / 256 / 256 % 256 : Nat) : Int), .int .u8 ((Mur.u64n n / 256 % 256 : Nat) : Int), .int .u8 ((Mur.u64n n % 256 : Nat) : Int)] 5 (0, 0)) := hb5
 have zz5 := ch5.size
 refine rEnd 7 rfl (nxt (reg ?_))
 refine rP 0 19 (.int .u64 ((Mur.u64n n / 256 / 256 / 256 : Nat) : Int)) rfl rfl ?_
 refine rQ 1 20 (.int .u64 ((Mur.u64n n / 256 / 256 / 256 / 256 : Nat) : Int)) rfl rfl (Mur.quo_u64 26 26 (.tmp 19) (.const (.int .u64 256)) rfl (Mur.u64n n / 256 / 256 / 256) 256 (by kernel_rfl) (by kernel_rfl) (by omega) (by have := Mur.u64n_lt n; omega)) ?_
 refine rP 2 3 (.int .u64 ((Mur.u64n n / 256 / 256 / 256 / 256 : Nat) : Int)) rfl rfl ?_
 refine rEnd 3 rfl (inN (nxt (reg ?_)))
 refine rP 0 11 (.int .i64 4) rfl rfl ?_
 refine rQ 1 12 _ rfl rfl (qint64 (n := 4 - 1) (z := 3) (by omega) (by omega) (by omega)) ?_
 refine rP 2 5 (.int .i64 3) rfl rfl ?_
 refine rEnd 3 rfl (nxt (Wk.rdS (wp_seq (wp_seq (reg ?_)))))
 refine rP 0 9 (.int .i64 3) rfl rfl ?_
 refine rQ 1 10 _ rfl rfl (qboolT (b := decide ((3 : Int) ≥ (0 : Int))) (decide_eq_true (by decide))) ?_
 refine rEnd 2 rfl (nxt (wp_cond_true (by kernel_rfl) (wp_skip (nxt (wp_seq (wp_block (wp_seq (reg ?_))))))))
 refine rP 0 13 (.slice (some ⟨w.heap.size, 0, none⟩) 8 8) rfl rfl ?_
 refine rP 1 14 (.int .i64 3) rfl rfl ?_
 refine rP 2 15 (.int .u64 ((Mur.u64n n / 256 / 256 / 256 / 256 : Nat) : Int)) rfl rfl ?_
 refine rQ 3 16 (.int .u64 ((Mur.u64n n / 256 / 256 / 256 / 256 % 256 : Nat) : Int)) rfl rfl (Mur.rem_u64 26 26 (.tmp 15) (.const (.int .u64 256)) rfl (Mur.u64n n / 256 / 256 / 256 / 256) 256 (by kernel_rfl) (by kernel_rfl) (by omega)) ?_
 refine rQ 4 17 (.int .u8 ((Mur.u64n n / 256 / 256 / 256 / 256 % 256 : Nat) : Int)) rfl rfl (Mur.conv_int 26 5 (.tmp 16) rfl (by kernel_rfl) .u8 Tryd.underlying5 .u64 ((Mur.u64n n / 256 / 256 / 256 / 256 % 256 : Nat) : Int) (by kernel_rfl) (by rw [Mur.u8_mod]; omega)) ?_
 refine rQ 5 18 (.pointer (some ⟨w.heap.size, 3, none⟩)) rfl rfl (index_sl 38 5 (.tmp 13) (.tmp 14) rfl Tryd.underlying38 1 (by kernel_rfl) w.heap.size 0 8 8 3 .i64 (by kernel_rfl) (by kernel_rfl) (by omega)) ?_
 refine rY 6 rfl rfl (store1 5 (.tmp 18) (.tmp 17) rfl (by kernel_rfl) w.heap.size 3 (by kernel_rfl) (.int .u8 ((Mur.u64n n / 256 / 256 / 256 / 256 % 256 : Nat) : Int)) (by kernel_rfl) rfl 5 #[.int .u8 0, .int .u8 0, .int .u8 0, .int .u8 0, .int .u8 ((Mur.u64n n / 256 / 256 / 256 % 256 : Nat) : Int), .int .u8 ((Mur.u64n n / 256 / 256 % 256 : Nat) : Int), .int .u8 ((Mur.u64n n / 256 % 256 : Nat) : Int), .int .u8 ((Mur.u64n n % 256 : Nat) : Int)] hb5 (by simp)) ?_
 rintro W6 ⟨hb6, ch6⟩
 replace hb6 : W6.heap[w.heap.size]? = some (.cells #[.int .u8 0, .int .u8 0, .int .u8 0, .int .u8 ((Mur.u64n n / 256 / 256 / 256 / 256 % 256 : Nat) : Int), .int .u8 ((Mur.u64n n / 256 / 256 / 256 % 256 : Nat) : Int), .int .u8 ((Mur.u64n n / 256 / 256 % 256 : Nat) : Int), .int .u8 ((Mur.u64n n / 256 % 256 : Nat) : Int), .int .u8 ((Mur.u64n n % 256 : Nat) : Int)] 5 (0, 0)) := hb6
 have zz6 := ch6.size
 refine rEnd 7 rfl (nxt (reg ?_))
 refine rP 0 19 (.int .u64 ((Mur.u64n n / 256 / 256 / 256 / 256 : Nat) : Int)) rfl rfl ?_
 refine rQ 1 20 (.int .u64 ((Mur.u64n n / 256 / 256 / 256 / 256 / 256 : Nat) : Int)) rfl rfl (Mur.quo_u64 26 26 (.tmp 19) (.const (.int .u64 256)) rfl (Mur.u64n n / 256 / 256 / 256 / 256) 256 (by kernel_rfl) (by kernel_rfl) (by omega) (by have := Mur.u64n_lt n; omega)) ?_
 refine rP 2 3 (.int .u64 ((Mur.u64n n / 256 / 256 / 256 / 256 / 256 : Nat) : Int)) rfl rfl ?_
 refine rEnd 3 rfl (inN (nxt (reg ?_)))
 refine rP 0 11 (.int .i64 3) rfl rfl ?_
 refine rQ 1 12 _ rfl rfl (qint64 (n := 3 - 1) (z := 2) (by omega) (by omega) (by omega)) ?_
 refine rP 2 5 (.int .i64 2) rfl rfl ?_
 refine rEnd 3 rfl (nxt (Wk.rdS (wp_seq (wp_seq (reg ?_)))))
 refine rP 0 9 (.int .i64 2) rfl rfl ?_
 refine rQ 1 10 _ rfl rfl (qboolT (b := decide ((2 : Int) ≥ (0 : Int))) (decide_eq_true (by decide))) ?_
 refine rEnd 2 rfl (nxt (wp_cond_true (by kernel_rfl) (wp_skip (nxt (wp_seq (wp_block (wp_seq (reg ?_))))))))
 refine rP 0 13 (.slice (some ⟨w.heap.size, 0, none⟩) 8 8) rfl rfl ?_
 refine rP 1 14 (.int .i64 2) rfl rfl ?_
 refine rP 2 15 (.int .u64 ((Mur.u64n n / 256 / 256 / 256 / 256 / 256 : Nat) : Int)) rfl rfl ?_
 refine rQ 3 16 (.int .u64 ((Mur.u64n n / 256 / 256 / 256 / 256 / 256 % 256 : Nat) : Int)) rfl rfl (Mur.rem_u64 26 26 (.tmp 15) (.const (.int .u64 256)) rfl (Mur.u64n n / 256 / 256 / 256 / 256 / 256) 256 (by kernel_rfl) (by kernel_rfl) (by omega)) ?_
 refine rQ 4 17 (.int .u8 ((Mur.u64n n / 256 / 256 / 256 / 256 / 256 % 256 : Nat) : Int)) rfl rfl (Mur.conv_int 26 5 (.tmp 16) rfl (by kernel_rfl) .u8 Tryd.underlying5 .u64 ((Mur.u64n n / 256 / 256 / 256 / 256 / 256 % 256 : Nat) : Int) (by kernel_rfl) (by rw [Mur.u8_mod]; omega)) ?_
 refine rQ 5 18 (.pointer (some ⟨w.heap.size, 2, none⟩)) rfl rfl (index_sl 38 5 (.tmp 13) (.tmp 14) rfl Tryd.underlying38 1 (by kernel_rfl) w.heap.size 0 8 8 2 .i64 (by kernel_rfl) (by kernel_rfl) (by omega)) ?_
 refine rY 6 rfl rfl (store1 5 (.tmp 18) (.tmp 17) rfl (by kernel_rfl) w.heap.size 2 (by kernel_rfl) (.int .u8 ((Mur.u64n n / 256 / 256 / 256 / 256 / 256 % 256 : Nat) : Int)) (by kernel_rfl) rfl 5 #[.int .u8 0, .int .u8 0, .int .u8 0, .int .u8 ((Mur.u64n n / 256 / 256 / 256 / 256 % 256 : Nat) : Int), .int .u8 ((Mur.u64n n / 256 / 256 / 256 % 256 : Nat) : Int), .int .u8 ((Mur.u64n n / 256 / 256 % 256 : Nat) : Int), .int .u8 ((Mur.u64n n / 256 % 256 : Nat) : Int), .int .u8 ((Mur.u64n n % 256 : Nat) : Int)] hb6 (by simp)) ?_
 rintro W7 ⟨hb7, ch7⟩
 replace hb7 : W7.heap[w.heap.size]? = some (.cells #[.int .u8 0, .int .u8 0, .int .u8 ((Mur.u64n n / 256 / 256 / 256 / 256 / 256 % 256 : Nat) : Int), .int .u8 ((Mur.u64n n / 256 / 256 / 256 / 256 % 256 : Nat) : Int), .int .u8 ((Mur.u64n n / 256 / 256 / 256 % 256 : Nat) : Int), .int .u8 ((Mur.u64n n / 256 / 256 % 256 : Nat) : Int), .int .u8 ((Mur.u64n n / 256 % 256 : Nat) : Int), .int .u8 ((Mur.u64n n % 256 : Nat) : Int)] 5 (0, 0)) := hb7
 have zz7 := ch7.size
 refine rEnd 7 rfl (nxt (reg ?_))
 refine rP 0 19 (.int .u64 ((Mur.u64n n / 256 / 256 / 256 / 256 / 256 : Nat) : Int)) rfl rfl ?_
 refine rQ 1 20 (.int .u64 ((Mur.u64n n / 256 / 256 / 256 / 256 / 256 / 256 : Nat) : Int)) rfl rfl (Mur.quo_u64 26 26 (.tmp 19) (.const (.int .u64 256)) rfl (Mur.u64n n / 256 / 256 / 256 / 256 / 256) 256 (by kernel_rfl) (by kernel_rfl) (by omega) (by have := Mur.u64n_lt n; omega)) ?_
 refine rP 2 3 (.int .u64 ((Mur.u64n n / 256 / 256 / 256 / 256 / 256 / 256 : Nat) : Int)) rfl rfl ?_
 refine rEnd 3 rfl (inN (nxt (reg ?_)))
 refine rP 0 11 (.int .i64 2) rfl rfl ?_
 refine rQ 1 12 _ rfl rfl (qint64 (n := 2 - 1) (z := 1) (by omega) (by omega) (by omega)) ?_
 refine rP 2 5 (.int .i64 1) rfl rfl ?_
 refine rEnd 3 rfl (nxt (Wk.rdS (wp_seq (wp_seq (reg ?_)))))
 refine rP 0 9 (.int .i64 1) rfl rfl ?_
 refine rQ 1 10 _ rfl rfl (qboolT (b := decide ((1 : Int) ≥ (0 : Int))) (decide_eq_true (by decide))) ?_
 refine rEnd 2 rfl (nxt (wp_cond_true (by kernel_rfl) (wp_skip (nxt (wp_seq (wp_block (wp_seq (reg ?_))))))))
 refine rP 0 13 (.slice (some ⟨w.heap.size, 0, none⟩) 8 8) rfl rfl ?_
 refine rP 1 14 (.int .i64 1) rfl rfl ?_
 refine rP 2 15 (.int .u64 ((Mur.u64n n / 256 / 256 / 256 / 256 / 256 / 256 : Nat) : Int)) rfl rfl ?_
 refine rQ 3 16 (.int .u64 ((Mur.u64n n / 256 / 256 / 256 / 256 / 256 / 256 % 256 : Nat) : Int)) rfl rfl (Mur.rem_u64 26 26 (.tmp 15) (.const (.int .u64 256)) rfl (Mur.u64n n / 256 / 256 / 256 / 256 / 256 / 256) 256 (by kernel_rfl) (by kernel_rfl) (by omega)) ?_
 refine rQ 4 17 (.int .u8 ((Mur.u64n n / 256 / 256 / 256 / 256 / 256 / 256 % 256 : Nat) : Int)) rfl rfl (Mur.conv_int 26 5 (.tmp 16) rfl (by kernel_rfl) .u8 Tryd.underlying5 .u64 ((Mur.u64n n / 256 / 256 / 256 / 256 / 256 / 256 % 256 : Nat) : Int) (by kernel_rfl) (by rw [Mur.u8_mod]; omega)) ?_
 refine rQ 5 18 (.pointer (some ⟨w.heap.size, 1, none⟩)) rfl rfl (index_sl 38 5 (.tmp 13) (.tmp 14) rfl Tryd.underlying38 1 (by kernel_rfl) w.heap.size 0 8 8 1 .i64 (by kernel_rfl) (by kernel_rfl) (by omega)) ?_
 refine rY 6 rfl rfl (store1 5 (.tmp 18) (.tmp 17) rfl (by kernel_rfl) w.heap.size 1 (by kernel_rfl) (.int .u8 ((Mur.u64n n / 256 / 256 / 256 / 256 / 256 / 256 % 256 : Nat) : Int)) (by kernel_rfl) rfl 5 #[.int .u8 0, .int .u8 0, .int .u8 ((Mur.u64n n / 256 / 256 / 256 / 256 / 256 % 256 : Nat) : Int), .int .u8 ((Mur.u64n n / 256 / 256 / 256 / 256 % 256 : Nat) : Int), .int .u8 ((Mur.u64n n / 256 / 256 / 256 % 256 : Nat) : Int), .int .u8 ((Mur.u64n n / 256 / 256 % 256 : Nat) : Int), .int .u8 ((Mur.u64n n / 256 % 256 : Nat) : Int), .int .u8 ((Mur.u64n n % 256 : Nat) : Int)] hb7 (by simp)) ?_
 rintro W8 ⟨hb8, ch8⟩
 replace hb8 : W8.heap[w.heap.size]? = some (.cells #[.int .u8 0, .int .u8 ((Mur.u64n n / 256 / 256 / 256 / 256 / 256 / 256 % 256 : Nat) : Int), .int .u8 ((Mur.u64n n / 256 / 256 / 256 / 256 / 256 % 256 : Nat) : Int), .int .u8 ((Mur.u64n n / 256 / 256 / 256 / 256 % 256 : Nat) : Int), .int .u8 ((Mur.u64n n / 256 / 256 / 256 % 256 : Nat) : Int), .int .u8 ((Mur.u64n n / 256 / 256 % 256 : Nat) : Int), .int .u8 ((Mur.u64n n / 256 % 256 : Nat) : Int), .int .u8 ((Mur.u64n n % 256 : Nat) : Int)] 5 (0, 0)) := hb8
 have zz8 := ch8.size
 refine rEnd 7 rfl (nxt (reg ?_))
 refine rP 0 19 (.int .u64 ((Mur.u64n n / 256 / 256 / 256 / 256 / 256 / 256 : Nat) : Int)) rfl rfl ?_
 refine rQ 1 20 (.int .u64 ((Mur.u64n n / 256 / 256 / 256 / 256 / 256 / 256 / 256 : Nat) : Int)) rfl rfl (Mur.quo_u64 26 26 (.tmp 19) (.const (.int .u64 256)) rfl (Mur.u64n n / 256 / 256 / 256 / 256 / 256 / 256) 256 (by kernel_rfl) (by kernel_rfl) (by omega) (by have := Mur.u64n_lt n; omega)) ?_
 refine rP 2 3 (.int .u64 ((Mur.u64n n / 256 / 256 / 256 / 256 / 256 / 256 / 256 : Nat) : Int)) rfl rfl ?_
 refine rEnd 3 rfl (inN (nxt (reg ?_)))
 refine rP 0 11 (.int .i64 1) rfl rfl ?_
 refine rQ 1 12 _ rfl rfl (qint64 (n := 1 - 1) (z := 0) (by omega) (by omega) (by omega)) ?_
 refine rP 2 5 (.int .i64 0) rfl rfl ?_
 refine rEnd 3 rfl (nxt (Wk.rdS (wp_seq (wp_seq (reg ?_)))))
 refine rP 0 9 (.int .i64 0) rfl rfl ?_
 refine rQ 1 10 _ rfl rfl (qboolT (b := decide ((0 : Int) ≥ (0 : Int))) (decide_eq_true (by decide))) ?_
 refine rEnd 2 rfl (nxt (wp_cond_true (by kernel_rfl) (wp_skip (nxt (wp_seq (wp_block (wp_seq (reg ?_))))))))
 refine rP 0 13 (.slice (some ⟨w.heap.size, 0, none⟩) 8 8) rfl rfl ?_
 refine rP 1 14 (.int .i64 0) rfl rfl ?_
 refine rP 2 15 (.int .u64 ((Mur.u64n n / 256 / 256 / 256 / 256 / 256 / 256 / 256 : Nat) : Int)) rfl rfl ?_
 refine rQ 3 16 (.int .u64 ((Mur.u64n n / 256 / 256 / 256 / 256 / 256 / 256 / 256 % 256 : Nat) : Int)) rfl rfl (Mur.rem_u64 26 26 (.tmp 15) (.const (.int .u64 256)) rfl (Mur.u64n n / 256 / 256 / 256 / 256 / 256 / 256 / 256) 256 (by kernel_rfl) (by kernel_rfl) (by omega)) ?_
 refine rQ 4 17 (.int .u8 ((Mur.u64n n / 256 / 256 / 256 / 256 / 256 / 256 / 256 % 256 : Nat) : Int)) rfl rfl (Mur.conv_int 26 5 (.tmp 16) rfl (by kernel_rfl) .u8 Tryd.underlying5 .u64 ((Mur.u64n n / 256 / 256 / 256 / 256 / 256 / 256 / 256 % 256 : Nat) : Int) (by kernel_rfl) (by rw [Mur.u8_mod]; omega)) ?_
 refine rQ 5 18 (.pointer (some ⟨w.heap.size, 0, none⟩)) rfl rfl (index_sl 38 5 (.tmp 13) (.tmp 14) rfl Tryd.underlying38 1 (by kernel_rfl) w.heap.size 0 8 8 0 .i64 (by kernel_rfl) (by kernel_rfl) (by omega)) ?_
 refine rY 6 rfl rfl (store1 5 (.tmp 18) (.tmp 17) rfl (by kernel_rfl) w.heap.size 0 (by kernel_rfl) (.int .u8 ((Mur.u64n n / 256 / 256 / 256 / 256 / 256 / 256 / 256 % 256 : Nat) : Int)) (by kernel_rfl) rfl 5 #[.int .u8 0, .int .u8 ((Mur.u64n n / 256 / 256 / 256 / 256 / 256 / 256 % 256 : Nat) : Int), .int .u8 ((Mur.u64n n / 256 / 256 / 256 / 256 / 256 % 256 : Nat) : Int), .int .u8 ((Mur.u64n n / 256 / 256 / 256 / 256 % 256 : Nat) : Int), .int .u8 ((Mur.u64n n / 256 / 256 / 256 % 256 : Nat) : Int), .int .u8 ((Mur.u64n n / 256 / 256 % 256 : Nat) : Int), .int .u8 ((Mur.u64n n / 256 % 256 : Nat) : Int), .int .u8 ((Mur.u64n n % 256 : Nat) : Int)] hb8 (by simp)) ?_
 rintro W9 ⟨hb9, ch9⟩
 replace hb9 : W9.heap[w.heap.size]? = some (.cells #[.int .u8 ((Mur.u64n n / 256 / 256 / 256 / 256 / 256 / 256 / 256 % 256 : Nat) : Int), .int .u8 ((Mur.u64n n / 256 / 256 / 256 / 256 / 256 / 256 % 256 : Nat) : Int), .int .u8 ((Mur.u64n n / 256 / 256 / 256 / 256 / 256 % 256 : Nat) : Int), .int .u8 ((Mur.u64n n / 256 / 256 / 256 / 256 % 256 : Nat) : Int), .int .u8 ((Mur.u64n n / 256 / 256 / 256 % 256 : Nat) : Int), .int .u8 ((Mur.u64n n / 256 / 256 % 256 : Nat) : Int), .int .u8 ((Mur.u64n n / 256 % 256 : Nat) : Int), .int .u8 ((Mur.u64n n % 256 : Nat) : Int)] 5 (0, 0)) := hb9
 have zz9 := ch9.size
 refine rEnd 7 rfl (nxt (reg ?_))
 refine rP 0 19 (.int .u64 ((Mur.u64n n / 256 / 256 / 256 / 256 / 256 / 256 / 256 : Nat) : Int)) rfl rfl ?_
 refine rQ 1 20 (.int .u64 ((Mur.u64n n / 256 / 256 / 256 / 256 / 256 / 256 / 256 / 256 : Nat) : Int)) rfl rfl (Mur.quo_u64 26 26 (.tmp 19) (.const (.int .u64 256)) rfl (Mur.u64n n / 256 / 256 / 256 / 256 / 256 / 256 / 256) 256 (by kernel_rfl) (by kernel_rfl) (by omega) (by have := Mur.u64n_lt n; omega)) ?_
 refine rP 2 3 (.int .u64 ((Mur.u64n n / 256 / 256 / 256 / 256 / 256 / 256 / 256 / 256 : Nat) : Int)) rfl rfl ?_
 refine rEnd 3 rfl (inN (nxt (reg ?_)))
 refine rP 0 11 (.int .i64 0) rfl rfl ?_
 refine rQ 1 12 _ rfl rfl (qint64 (n := 0 - 1) (z := -1) (by omega) (by omega) (by omega)) ?_
 refine rP 2 5 (.int .i64 (-1)) rfl rfl ?_
 refine rEnd 3 rfl (nxt (Wk.rdS (wp_seq (wp_seq (reg ?_)))))
 refine rP 0 9 (.int .i64 (-1)) rfl rfl ?_
 refine rQ 1 10 _ rfl rfl (qboolF (b := decide ((-1 : Int) ≥ (0 : Int))) (decide_eq_false (by decide))) ?_
 refine rEnd 2 rfl (nxt (wp_cond_false (by kernel_rfl) (wp_exit (thX (thX (inX (nxt (wp_seq (reg ?_)))))))))
 refine rP 0 21 (.slice (some ⟨w.heap.size, 0, none⟩) 8 8) rfl rfl ?_
 refine rP 1 2 (.slice (some ⟨w.heap.size, 0, none⟩) 8 8) rfl rfl ?_
 refine rEnd 2 rfl (nxt (wp_ret ?_))
 have hfin := hb9
 rw [Mur.e8_quo] at hfin
 have kk1 : Chg [] w W1 := Chg.step ((Chg.refl _).more (by simp)) ch1 trivial
 have kk2 := Chg.step kk1 ch2 ⟨.inr (by omega), trivial⟩
 have kk3 := Chg.step kk2 ch3 ⟨.inr (by omega), trivial⟩
 have kk4 := Chg.step kk3 ch4 ⟨.inr (by omega), trivial⟩
 have kk5 := Chg.step kk4 ch5 ⟨.inr (by omega), trivial⟩
 have kk6 := Chg.step kk5 ch6 ⟨.inr (by omega), trivial⟩
 have kk7 := Chg.step kk6 ch7 ⟨.inr (by omega), trivial⟩
 have kk8 := Chg.step kk7 ch8 ⟨.inr (by omega), trivial⟩
 have kk9 := Chg.step kk8 ch9 ⟨.inr (by omega), trivial⟩
 refine Wk.ret (.slice (some ⟨w.heap.size, 0, none⟩) 8 8) rfl (by kernel_rfl) ?_
 exact ⟨w.heap.size, _, Go.Lib.hid rfl, rfl, Mur.byt_blk _ (Mur.e8_length _) hfin, ⟨by omega, by omega⟩, kk9⟩
end Go.Proofs.YtfhneademopciaaDoor
