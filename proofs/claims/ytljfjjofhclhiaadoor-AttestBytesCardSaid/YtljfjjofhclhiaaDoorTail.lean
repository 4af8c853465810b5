/- A region that draws its order, whose first operations are quiet in a class of worlds and whose last ones wait for all of these and for one another: one walk in the order of the text serves every order. No program in sight. -/
import Derived.Deep.QuietTactic
import Derived.BigQuiet
import Derived.WalkKit
namespace Mur
open Go
section
variable {P : Program} {ops : Array Oper} {md : Region.Mode} {C : World → Prop} {n : Nat} {L : Act → Prop} {Q : Exit → Act → World → Prop}

/-- Does operation j wait for operation i, by an edge of its own? -/
def waits (md : Region.Mode) (ops : Array Oper) (j i : Nat) : Bool :=
  match ops[j]? with
  | some o => o.after.any fun e => Region.binds md e && e.on == i
  | none => false
/-- All edges go back. -/
def backB (md : Region.Mode) (ops : Array Oper) : Bool :=
  (List.range ops.size).all fun j => match ops[j]? with
    | some o => o.after.all fun e => !Region.binds md e || decide (e.on < j)
    | none => true
def tailB (md : Region.Mode) (ops : Array Oper) (n : Nat) : Bool :=
  (List.range n).all (fun i => waits md ops n i) && (List.range ops.size).all fun t => decide (t ≤ n) || waits md ops t (t - 1)
def lexB (md : Region.Mode) (ops : Array Oper) : Nat → Nat → Array Bool → Bool
  | 0, _, _ => true
  | m + 1, k, listed => (Region.ready md ops listed).contains k && Region.free md ops listed k && lexB md ops m (k + 1) (listed.setIfInBounds k true)

theorem waits_spec {j i : Nat} (h : waits md ops j i = true) : ∃ o, ops[j]? = some o ∧ ∃ e ∈ o.after, Region.binds md e = true ∧ e.on = i := by
  unfold waits at h
  split at h
  · rename_i o ho
    obtain ⟨e, he, hb⟩ := Array.any_eq_true'.1 h
    simp only [Bool.and_eq_true, beq_iff_eq] at hb
    exact ⟨o, ho, e, he, hb.1, hb.2⟩
  · cases h
theorem backB_spec (h : backB md ops = true) {j : Nat} {o : Oper} (ho : ops[j]? = some o) {e : Edge} (he : e ∈ o.after) (hb : Region.binds md e = true) : e.on < j := by
  have hj : j < ops.size := (Array.getElem?_eq_some_iff.1 ho).1
  have h1 := List.all_eq_true.1 h j (List.mem_range.2 hj)
  simp only [ho, Array.all_eq_true_iff_forall_mem] at h1
  simpa [hb] using h1 e he

theorem getD_ft {listed : Array Bool} {i : Nat} (h : listed.getD i false = true) : listed.getD i true = true := by
  rcases Nat.lt_or_ge i listed.size with h' | h'
  · simpa [h'] using h
  · simp [Array.getElem?_eq_none h'] at h
/-- Not ready: something that it waits for is not listed. -/
theorem not_ready {listed : Array Bool} {t i : Nat} (hw : waits md ops t i = true) (hi : listed.getD i false = false) : t ∉ Region.ready md ops listed := by
  intro hr
  obtain ⟨o, ho, e, he, hb, hon⟩ := waits_spec hw
  obtain ⟨_, o', ho', hall⟩ := mem_ready.1 hr
  have := Option.some.inj (ho.symm.trans ho')
  subst this
  have h1 := hall e he hb
  rw [hon, hi] at h1
  cases h1

def AllTo (n : Nat) (listed : Array Bool) : Prop := ∀ j, j < n → listed.getD j false = true
def NoneFrom (ops : Array Oper) (n : Nat) (listed : Array Bool) : Prop := ∀ j, n ≤ j → j < ops.size → listed.getD j true = false
theorem AllTo.set {listed : Array Bool} (h : AllTo n listed) (i : Nat) : AllTo n (listed.setIfInBounds i true) := fun j hj => getD_set_true (h j hj)

/-- The head's operations, in whatever order; behind all of them 'L'. -/
def hd (P : Program) (md : Region.Mode) (ops : Array Oper) (C : World → Prop) (n : Nat) (L : Act → Prop) : Nat → Array Bool → Act → Prop
  | 0, listed, a => AllTo n listed ∧ L a
  | f + 1, listed, a => (AllTo n listed → L a) ∧ ∀ i, i < n → i ∈ Region.ready md ops listed → qOp P ops C i (hd P md ops C n L f (listed.setIfInBounds i true)) a

theorem wpAny_succ : ∀ (f : Nat) (listed : Array Bool) (a : Act) (w : World), wpAny P md ops Q f listed a w → wpAny P md ops Q (f + 1) listed a w
  | 0, _, _, _, h => ⟨fun _ => h.2, fun i hi => by rw [h.1] at hi; cases hi⟩
  | f + 1, _, _, _, h => ⟨h.1, fun i hi => wpOp_mono (fun a' w' h' => wpAny_succ f _ a' w' h') (h.2 i hi)⟩
theorem wpAny_more (g : Nat) (listed : Array Bool) (a : Act) (w : World) (h : wpAny P md ops Q g listed a w) : ∀ f, wpAny P md ops Q (f + g) listed a w
  | 0 => by rw [Nat.zero_add]; exact h
  | f + 1 => by rw [show f + 1 + g = (f + g) + 1 by omega]; exact wpAny_succ _ _ _ _ (wpAny_more g listed a w h f)

theorem least_out (listed : Array Bool) (h : ¬ AllTo n listed) : ∃ j, j < n ∧ listed.getD j false = false ∧ ∀ i, i < j → listed.getD i false = true := by
  induction n with
  | zero => exact absurd (fun j hj => absurd hj (by omega)) h
  | succ n ih =>
    by_cases hn : AllTo n listed
    · refine ⟨n, by omega, ?_, hn⟩
      cases hv : listed.getD n false with
      | false => rfl
      | true => exact absurd (fun j hj => (by rcases Nat.lt_or_ge j n with h' | h'; exact hn j h'; rw [show j = n by omega]; exact hv)) h
    · obtain ⟨j, hj, h1, h2⟩ := ih hn
      exact ⟨j, by omega, h1, h2⟩

theorem wpAny_of_hd {g : Nat} (hb : backB md ops = true) (ht : tailB md ops n = true) (hn : n ≤ ops.size)
    (hL : ∀ (listed : Array Bool) a w, listed.size = ops.size → AllTo n listed → NoneFrom ops n listed → C w → L a → wpAny P md ops Q g listed a w) :
    ∀ (f : Nat) (listed : Array Bool) (a : Act) (w : World), listed.size = ops.size → NoneFrom ops n listed → C w → hd P md ops C n L f listed a → wpAny P md ops Q (f + g) listed a w
  | 0, listed, a, w, hs, hno, hC, h => by rw [Nat.zero_add]; exact hL listed a w hs h.1 hno hC h.2
  | f + 1, listed, a, w, hs, hno, hC, h => by
    by_cases hall : AllTo n listed
    · exact wpAny_more g listed a w (hL listed a w hs hall hno hC (h.1 hall)) (f + 1)
    · obtain ⟨j, hj, hout, hless⟩ := least_out listed hall
      simp only [tailB, Bool.and_eq_true] at ht
      have hready : j ∈ Region.ready md ops listed := by
        have hjs : j < ops.size := by omega
        refine mem_ready.2 ⟨?_, ops[j], by rw [Array.getElem?_eq_getElem hjs], fun e he hbd => hless _ (backB_spec hb (Array.getElem?_eq_getElem hjs) he hbd)⟩
        have hjl : j < listed.size := by omega
        simpa [hjl] using hout
      have htail : ∀ t, n ≤ t → t ∉ Region.ready md ops listed := by
        intro t hnt hr
        have hts : t < ops.size := by obtain ⟨_, o, ho, _⟩ := mem_ready.1 hr; exact (Array.getElem?_eq_some_iff.1 ho).1
        rcases Nat.lt_or_ge n t with hlt | hge
        · have h1 := List.all_eq_true.1 ht.2 t (List.mem_range.2 hts)
          simp only [Bool.or_eq_true, decide_eq_true_eq] at h1
          have h2 := hno (t - 1) (by omega) (by omega)
          have hlt' : t - 1 < listed.size := by omega
          exact not_ready (h1.resolve_left (by omega)) (by simpa [hlt'] using h2) hr
        · obtain rfl : t = n := by omega
          exact not_ready (List.all_eq_true.1 ht.1 j (List.mem_range.2 hj)) hout hr
      rw [show f + 1 + g = (f + g) + 1 by omega]
      refine ⟨fun h0 => (by rw [h0] at hready; cases hready), fun i hi => ?_⟩
      have hin : i < n := by
        rcases Nat.lt_or_ge i n with h' | h'
        · exact h'
        · exact absurd hi (htail i h')
      exact wpOp_of_qOp hC (fun a' w' hC' h' => wpAny_of_hd hb (by simp only [tailB, Bool.and_eq_true]; exact ht) hn hL f _ a' w' (by simpa using hs)
        (fun k hk hks => by rw [getD_set_ne true (by omega)]; exact hno k hk hks) hC' h') (h.2 i hin hi)

theorem hd_first {i : Nat} {oi : Oper} {v : Value} (hi : ops[i]? = some oi) (hsel : ∀ (j : Nat) (o : Oper) cs b, ops[j]? = some o → o.op ≠ .select cs b) (hin : i < n) :
    ∀ (f : Nat) (listed : Array Bool) (a : Act),
      (∀ j oj, ops[j]? = some oj → j ≠ i → listed.getD j true = false → (∀ e ∈ oj.after, Region.binds md e = true → e.on ≠ i) → oi.apart ops oj = true) →
      i ∈ Region.ready md ops listed → listed.getD i false = false → YieldsIn P ops C oi v a →
      hd P md ops C n L f (listed.setIfInBounds i true) (a.put oi.dst v) → hd P md ops C n L (f + 1) listed a := by
  intro f
  induction f with
  | zero =>
    intro listed a _ hr hout hy H
    refine ⟨fun hall => (by rw [hall i hin] at hout; cases hout), fun j hj hjr => ?_⟩
    by_cases hji : j = i
    · subst hji; exact hy.qOp hi H
    · have h1 := H.1 j hj
      rw [getD_set_ne false (fun e => hji e.symm)] at h1
      have h2 := (mem_ready.1 hjr).1
      rw [getD_ft h1] at h2
      cases h2
  | succ f ih =>
    intro listed a hfree hr hout hy H
    refine ⟨fun hall => (by rw [hall i hin] at hout; cases hout), fun j hj hjr => ?_⟩
    by_cases hji : j = i
    · subst hji; exact hy.qOp hi H
    · have h1 := H.2 j hj (ready_mono hjr hji)
      obtain ⟨hjun, oj, hoj, hall⟩ := mem_ready.1 hjr
      have hnot : ∀ e ∈ oj.after, Region.binds md e = true → e.on ≠ i := fun e he hbd heq => by
        have h2 := hall e he hbd
        rw [heq, hout] at h2
        cases h2
      refine qOp_mono (fun a' h3 => ih (listed.setIfInBounds j true) a' ?_ (ready_mono hr (fun e => hji e.symm)) (by rw [getD_set_ne false hji]; exact hout) h3.1 ?_)
        (qOp_put hoj (hfree j oj hoj hji hjun hnot) (fun cs b => hsel i oi cs b hi) (fun cs b => hsel j oj cs b hoj) hy h1)
      · intro k ok hk hki hun hno
        refine hfree k ok hk hki ?_ hno
        by_cases hjk : j = k
        · subst hjk; exact hjun
        · rw [getD_set_ne true hjk] at hun; exact hun
      · rw [Array.setIfInBounds_comm _ _ hji]
        exact h3.2

theorem hd_lex (hsel : Region.noSelect ops = true) : ∀ (l : List Oper) (k : Nat) (listed : Array Bool) (a : Act), (∀ j, j < l.length → l[j]? = ops[k + j]?) → k + l.length = n →
    listed.size = ops.size → (∀ j, k ≤ j → j < ops.size → listed.getD j true = false) → AllTo k listed → lexB md ops l.length k listed = true → wpQuiet P ops C L l a → hd P md ops C n L l.length listed a
  | [], k, listed, a, _, hk, _, _, hall, _, h => ⟨(by simpa using hk) ▸ hall, h⟩
  | o :: l, k, listed, a, hl, hk, hs, hno, hall, hB, h => by
    have h0 : ops[k]? = some o := by simpa using (hl 0 (by simp)).symm
    have hks : k < ops.size := (Array.getElem?_eq_some_iff.1 h0).1
    simp only [List.length_cons, lexB, Bool.and_eq_true] at hB
    obtain ⟨⟨hr, hf⟩, hB'⟩ := hB
    have hq : qOp P ops C k (wpQuiet P ops C L l) a := by unfold qOp; simp only [h0]; exact h
    obtain ⟨v, hy, hK⟩ := yieldsIn_of_qOp h0 hq
    have hout : listed.getD k false = false := by
      have := hno k (Nat.le_refl _) hks
      have hkl : k < listed.size := by omega
      simpa [hkl] using this
    refine hd_first h0 (Region.noSelect_spec hsel) (by simp only [List.length_cons] at hk; omega) l.length listed a (Region.free_spec h0 hf) (by simpa using hr) hout hy ?_
    refine hd_lex hsel l (k + 1) _ _ (fun j hj => ?_) (by simp only [List.length_cons] at hk; omega) (by simpa using hs) (fun j hj hjs => ?_) (fun j hj => ?_) hB' hK
    · have := hl (j + 1) (by simp; omega)
      simpa [Nat.add_assoc, Nat.add_comm 1 j] using this
    · rw [getD_set_ne true (by omega)]; exact hno j (by omega) hjs
    · rcases Nat.lt_or_ge j k with h' | h'
      · exact getD_set_true (hall j h')
      · obtain rfl : j = k := by omega
        have hjl : j < listed.size := by omega
        simp [hjl]

/-- The tail: one order alone. -/
theorem wpAny_of_tail (hb : backB md ops = true) (ht : tailB md ops n = true) : ∀ (m k : Nat) (listed : Array Bool) (a : Act) (w : World), k + m = ops.size → n ≤ k → AllTo k listed → NoneFrom ops k listed → listed.size = ops.size →
    wpList P ops Q (ops.toList.drop k) a w → wpAny P md ops Q m listed a w
  | 0, k, listed, a, w, hk, _, hall, _, _, h => by
    have hk' : k = ops.size := by omega
    subst hk'
    refine ⟨List.eq_nil_iff_forall_not_mem.2 fun i hi => ?_, by rwa [List.drop_of_length_le (by simp)] at h⟩
    obtain ⟨hun, o, ho, _⟩ := mem_ready.1 hi
    rw [getD_ft (hall i (Array.getElem?_eq_some_iff.1 ho).1)] at hun
    cases hun
  | m + 1, k, listed, a, w, hk, hnk, hall, hno, hs, h => by
    have hks : k < ops.size := by omega
    have h0 : ops[k]? = some ops[k] := Array.getElem?_eq_getElem hks
    rw [List.drop_eq_getElem_cons (by simpa using hks)] at h
    have hready : k ∈ Region.ready md ops listed := mem_ready.2 ⟨hno k (Nat.le_refl _) hks, ops[k], h0, fun e he hbd => hall _ (backB_spec hb h0 he hbd)⟩
    refine ⟨fun h1 => (by rw [h1] at hready; cases hready), fun i hi => ?_⟩
    have hik : i = k := by
      obtain ⟨hun, o, ho, _⟩ := mem_ready.1 hi
      have his := (Array.getElem?_eq_some_iff.1 ho).1
      rcases Nat.lt_or_ge i k with h' | h'
      · rw [getD_ft (hall i h')] at hun
        cases hun
      · rcases Nat.eq_or_lt_of_le h' with h' | h'
        · exact h'.symm
        · simp only [tailB, Bool.and_eq_true] at ht
          have h1 := List.all_eq_true.1 ht.2 i (List.mem_range.2 his)
          simp only [Bool.or_eq_true, decide_eq_true_eq] at h1
          have h2 := hno (i - 1) (by omega) (by omega)
          have hil : i - 1 < listed.size := by omega
          exact absurd hi (not_ready (h1.resolve_left (by omega)) (by simpa [hil] using h2))
    subst hik
    have hw : wpOp P ops Q i (wpList P ops Q (ops.toList.drop (i + 1))) a w := by
      unfold wpOp
      simp only [h0]
      simpa [wpList] using h
    refine wpOp_mono (fun a' w' h' => wpAny_of_tail hb ht m (i + 1) _ a' w' (by omega) (by omega) (fun j hj => ?_) (fun j hj hjs => ?_) (by simpa using hs) h') hw
    · rcases Nat.lt_or_ge j i with h2 | h2
      · exact getD_set_true (hall j h2)
      · obtain rfl : j = i := by omega
        have hjl : j < listed.size := by omega
        simp [hjl]
    · rw [getD_set_ne true (by omega)]; exact hno j (by omega) hjs

def quietTailB (ops : Array Oper) (n : Nat) : Bool :=
  Region.noSelect ops && decide (n ≤ ops.size) && backB .any ops && tailB .any ops n && lexB .any ops n 0 (Array.replicate ops.size false)

/-- ONE WALK: the head quiet in the class, the tail in order behind it. -/
theorem wp_quiet_tail_class {id : Nat} {a : Act} {w : World} {l : List Oper} (n : Nat) (hm : P.follows .mixedOrders = true) (hB : quietTailB l.toArray n = true) (hC : C { w with drawn := w.drawn + 1 })
    (h : wpQuiet P l.toArray C (fun a' => ∀ w', C w' → wpList P l.toArray Q (l.drop n) a' w') (l.take n) a) : (Code.region id l.toArray true).wp P Q a w := by
  simp only [quietTailB, Bool.and_eq_true, decide_eq_true_eq] at hB
  obtain ⟨⟨⟨⟨hsel, hn⟩, hb⟩, ht⟩, hlex⟩ := hB
  have hn' : n ≤ l.length := by simpa using hn
  have htl : (l.take n).length = n := by simp; omega
  have hnone : ∀ j, 0 ≤ j → j < l.toArray.size → (Array.replicate l.toArray.size false).getD j true = false := fun j _ hj => by simp at hj; simp [hj]
  have H := hd_lex (md := .any) (n := n) (C := C) hsel (l.take n) 0 (Array.replicate l.toArray.size false) a
    (fun j hj => by rw [htl] at hj; simp [hj]) (by simpa using htl) (by simp) hnone (fun j hj => absurd hj (by omega)) (by rw [htl]; exact hlex) h
  refine wp_region_any hm ?_
  rw [htl] at H
  have G := wpAny_of_hd (Q := Q) (g := l.toArray.size - n) hb ht hn (fun listed a' w' hs hall hno hC' hLa => ?_) n _ a _ (by simp) (fun j hj hjs => hnone j (by omega) hjs) hC H
  · rwa [show n + (l.toArray.size - n) = l.toArray.size by omega] at G
  · exact wpAny_of_tail hb ht _ n listed a' w' (by omega) (Nat.le_refl _) hall hno hs (hLa w' hC')

/-- At the class 'w after some draws'. -/
theorem wp_quiet_tail {id : Nat} {a : Act} {w : World} {l : List Oper} (n : Nat) (hm : P.follows .mixedOrders = true) (hB : quietTailB l.toArray n = true)
    (h : wpQuiet P l.toArray (fun w' => ∃ n, w' = w.drewN n) (fun a' => ∀ w', (∃ n, w' = w.drewN n) → wpList P l.toArray Q (l.drop n) a' w') (l.take n) a) : (Code.region id l.toArray true).wp P Q a w :=
  wp_quiet_tail_class n hm hB ⟨1, rfl⟩ h
end
/-- A callee that leaves the world alone, met in a quiet walk. -/
theorem q_of {P : Program} {f : FuncId} {args : Array Value} {w : World} {n : Nat} {v : Value} (h : ∀ w, Calls P f args w fun e w' => e = .returned v ∧ w = w') :
    Calls P f args (w.drewN n) fun e w'' => e = .returned v ∧ ∃ m, w'' = w.drewN m := (h _).mono fun _ _ ⟨he, hw⟩ => ⟨he, n, hw.symm⟩
theorem q_of2 {P : Program} {f : FuncId} {args : Array Value} {w : World} {m n : Nat} {v : Value} (h : ∀ w, Calls P f args w fun e w' => e = .returned v ∧ w = w') :
    Calls P f args (w.drewN (m + n)) fun e w'' => e = .returned v ∧ ∃ k, w'' = w.drewN (m + k) := (h _).mono fun _ _ ⟨he, hw⟩ => ⟨he, n, hw.symm⟩
end Mur
