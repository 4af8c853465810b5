/- A region of all orders: two calls, a slice built between them, two arrays made and stored. No program in sight. -/
import Derived.Test.YtidhohnhhhooaaaDoorInv
namespace Mur
open Go Go.RowKit
section
variable {P : Program} {ops : Array Oper} {Q : Exit → Act → World → Prop}
def put5 (a : Act) (v10 v11 v47 v55 v56 : Value) : Act := ((((a.put (some 10) v10).put (some 11) v11).put (some 47) v47).put (some 55) v55).put (some 56) v56
theorem put5_10 (a : Act) (v10 v11 v47 v55 v56 u : Value) : (put5 a v10 v11 v47 v55 v56).put (some 10) u = put5 a u v11 v47 v55 v56 := by
  simp only [put5, Act.put]
  rw [Array.setIfInBounds_comm v56 u (by decide), Array.setIfInBounds_comm v55 u (by decide), Array.setIfInBounds_comm v47 u (by decide), Array.setIfInBounds_comm v11 u (by decide), Array.setIfInBounds_setIfInBounds]
theorem put5_11 (a : Act) (v10 v11 v47 v55 v56 u : Value) : (put5 a v10 v11 v47 v55 v56).put (some 11) u = put5 a v10 u v47 v55 v56 := by
  simp only [put5, Act.put]
  rw [Array.setIfInBounds_comm v56 u (by decide), Array.setIfInBounds_comm v55 u (by decide), Array.setIfInBounds_comm v47 u (by decide), Array.setIfInBounds_setIfInBounds]
theorem put5_47 (a : Act) (v10 v11 v47 v55 v56 u : Value) : (put5 a v10 v11 v47 v55 v56).put (some 47) u = put5 a v10 v11 u v55 v56 := by
  simp only [put5, Act.put]
  rw [Array.setIfInBounds_comm v56 u (by decide), Array.setIfInBounds_comm v55 u (by decide), Array.setIfInBounds_setIfInBounds]
theorem put5_55 (a : Act) (v10 v11 v47 v55 v56 u : Value) : (put5 a v10 v11 v47 v55 v56).put (some 55) u = put5 a v10 v11 v47 u v56 := by
  simp only [put5, Act.put]
  rw [Array.setIfInBounds_comm v56 u (by decide), Array.setIfInBounds_setIfInBounds]
theorem put5_56 (a : Act) (v10 v11 v47 v55 v56 u : Value) : (put5 a v10 v11 v47 v55 v56).put (some 56) u = put5 a v10 v11 v47 v55 u := by
  simp only [put5, Act.put]
  rw [Array.setIfInBounds_setIfInBounds]
theorem eval_put5 (a : Act) (v10 v11 v47 v55 v56 : Value) (t : Nat) (h10 : t ≠ 10) (h11 : t ≠ 11) (h47 : t ≠ 47) (h55 : t ≠ 55) (h56 : t ≠ 56) : (put5 a v10 v11 v47 v55 v56).eval (.tmp t) = a.eval (.tmp t) := by
  simp [put5, Act.put, Act.eval, h10.symm, h11.symm, h47.symm, h55.symm, h56.symm]
theorem eval_at (a : Act) (ha : a.tmps.size = 78) (v10 v11 v47 v55 v56 : Value) : (put5 a v10 v11 v47 v55 v56).eval (.tmp 10) = v10 ∧ (put5 a v10 v11 v47 v55 v56).eval (.tmp 11) = v11 ∧ (put5 a v10 v11 v47 v55 v56).eval (.tmp 47) = v47 ∧
    (put5 a v10 v11 v47 v55 v56).eval (.tmp 55) = v55 ∧ (put5 a v10 v11 v47 v55 v56).eval (.tmp 56) = v56 := by
  simp [put5, Act.put, Act.eval, ha]
def RowAt (B : Nat) (T : TypeId) (w : World) (v : Value) (cs : Array Value) : Prop := ∃ g, v = .pointer (some ⟨g, 0, none⟩) ∧ B ≤ g ∧ w.heap[g]? = some (.cells cs T (0, 0))
theorem RowAt.keep {B : Nat} {T : TypeId} {w w1 : World} {v : Value} {cs : Array Value} (h : RowAt B T w v cs) (hb : Below w.heap.size w w1) : RowAt B T w1 v cs :=
  let ⟨g, e, hg, hc⟩ := h
  ⟨g, e, hg, hp_below hb hc⟩
def cnt (b : Bool) : Nat := if b then 0 else 1
def lst (b2 b10 b11 b12 b13 b14 b15 : Bool) : Array Bool := #[true, true, b2, true, true, true, true, true, true, true, b10, b11, b12, b13, b14, b15]
/-- What holds whichever has come up. -/
def PairJ (W0 : World) (a0 : Act) (T te : TypeId) (s1 s2 D : Value) (z dc : Array Value) (fuel : Nat) (listed : Array Bool) (a : Act) (w : World) : Prop :=
  ∃ b2 b10 b11 b12 b13 b14 b15 v10 v11 v47 v55 v56, listed = lst b2 b10 b11 b12 b13 b14 b15 ∧ fuel = cnt b2 + cnt b10 + cnt b11 + cnt b12 + cnt b13 + cnt b14 + cnt b15 ∧ a = put5 a0 v10 v11 v47 v55 v56 ∧
    Below W0.heap.size W0 w ∧ (b2 = true → v47 = D) ∧ (b11 = true → v56 = D) ∧
    (b10 = true → b14 = false → ∃ g, v55 = .slice (some ⟨g, 0, none⟩) 2 2 ∧ w.heap[g]? = some (.cells #[s1, s2] te (0, 0))) ∧
    (b12 = true → RowAt W0.heap.size T w v10 (if b14 then dc else z)) ∧ (b13 = true → RowAt W0.heap.size T w v11 (if b15 then dc else z)) ∧ (b12 = true → b13 = true → v10 ≠ v11) ∧
    (b14 = true → b2 = true ∧ b11 = true ∧ b12 = true ∧ b13 = true) ∧ (b15 = true → b14 = true)
theorem RowAt.lt {B : Nat} {T : TypeId} {w : World} {cs : Array Value} {g : Nat} (h : RowAt B T w (.pointer (some ⟨g, 0, none⟩)) cs) : g < w.heap.size := by
  obtain ⟨g', e, _, hc⟩ := h
  injection e with e
  injection e with e
  injection e with e
  subst e
  exact hp_lt hc
set_option maxHeartbeats 4000000
theorem pair_inv {f : FuncId} {W0 : World} {a0 : Act} {T te : TypeId} {va vb s1 s2 D : Value} {z dc : Array Value} {S : World → Prop} {o2 o10 o11 o12 o13 o14 o15 : Oper} {ts ts' : Array TypeId}
    (hsz : ops.size = 16) (h2 : ops[2]? = some o2) (h10 : ops[10]? = some o10) (h11 : ops[11]? = some o11) (h12 : ops[12]? = some o12) (h13 : ops[13]? = some o13) (h14 : ops[14]? = some o14) (h15 : ops[15]? = some o15)
    (g2 : o2.guard = none) (g10 : o10.guard = none) (g11 : o11.guard = none) (g12 : o12.guard = none) (g13 : o13.guard = none) (g14 : o14.guard = none) (g15 : o15.guard = none)
    (d2 : o2.dst = some 47) (d10 : o10.dst = some 55) (d11 : o11.dst = some 56) (d12 : o12.dst = some 10) (d13 : o13.dst = some 11) (d14 : o14.dst = none) (d15 : o15.dst = none)
    (p2 : o2.op = .call { callee := .value (.func f), args := [Operand.tmp 45, .tmp 46].toArray, argTypes := ts }) (p11 : o11.op = .call { callee := .value (.func f), args := [Operand.tmp 48, .tmp 55].toArray, argTypes := ts' })
    (p14 : o14.op = .store T (.tmp 10) (.tmp 47)) (p15 : o15.op = .store T (.tmp 11) (.tmp 56))
    (r10 : ∀ (a : Act) (w : World), a.eval (.tmp 51) = s1 → a.eval (.tmp 54) = s2 → (execOp a.eval o10).run P w = .ok (.value (.slice (some ⟨w.heap.size, 0, none⟩) 2 2)) (w.alloc (.cells #[s1, s2] te)))
    (r12 : ∀ (a : Act) (w : World), (execOp a.eval o12).run P w = .ok (.value (.pointer (some ⟨w.heap.size, 0, none⟩))) (w.alloc (.cells z T))) (r13 : ∀ (a : Act) (w : World), (execOp a.eval o13).run P w = .ok (.value (.pointer (some ⟨w.heap.size, 0, none⟩))) (w.alloc (.cells z T)))
    (rf : ∀ (v u : Value) (w : World), (callFunc f #[v, u]).run P w = .ok (.enter f #[v, u]) w)
    (e11 : ∀ listed : Array Bool, (∀ e ∈ o11.after, Region.binds .any e = true → listed.getD e.on false = true) → listed.getD 2 false = true ∧ listed.getD 10 false = true)
    (e14 : ∀ listed : Array Bool, (∀ e ∈ o14.after, Region.binds .any e = true → listed.getD e.on false = true) → listed.getD 2 false = true ∧ listed.getD 11 false = true ∧ listed.getD 12 false = true ∧ listed.getD 13 false = true)
    (e15 : ∀ listed : Array Bool, (∀ e ∈ o15.after, Region.binds .any e = true → listed.getD e.on false = true) → listed.getD 11 false = true ∧ listed.getD 13 false = true ∧ listed.getD 14 false = true)
    (ha : a0.tmps.size = 78) (a45 : a0.eval (.tmp 45) = va) (a46 : a0.eval (.tmp 46) = vb) (a48 : a0.eval (.tmp 48) = va) (a51 : a0.eval (.tmp 51) = s1) (a54 : a0.eval (.tmp 54) = s2)
    (hD : D = .agg dc) (hi : (P.info? T).map (·.size) = some dc.size) (hz : z.size = dc.size) (hone : dc.all (·.oneCell') = true)
    (c1 : ∀ w : World, Below W0.heap.size W0 w → Calls P f #[va, vb] w fun e w' => e = .returned D ∧ Below w.heap.size w w')
    (c2 : ∀ (w : World) (g : Nat), Below W0.heap.size W0 w → w.heap[g]? = some (.cells #[s1, s2] te (0, 0)) → Calls P f #[va, .slice (some ⟨g, 0, none⟩) 2 2] w fun e w' => e = .returned D ∧ Below w.heap.size w w')
    (hS : ∀ w : World, Below W0.heap.size W0 w → S w)
    (hrd : ∀ b2 b10 b11 b12 b13 b14 b15 : Bool, Region.ready .any ops (lst b2 b10 b11 b12 b13 b14 b15) = [] → b14 = true ∧ b15 = true) (hra : Region.ready .any ops (lst true true true true true true true) = [])
    (hQ : ∀ (v10 v11 v55 : Value) (w : World), Below W0.heap.size W0 w → RowAt W0.heap.size T w v10 dc → RowAt W0.heap.size T w v11 dc → Q .normal (put5 a0 v10 v11 D v55 D) w) :
    ∀ listed, listed = lst false false false false false false false → put5 a0 undef undef undef undef undef = a0 → wpAnyH P .any ops Q S 7 listed a0 W0 := by
  suffices H : ∀ fuel listed a w, PairJ W0 a0 T te s1 s2 D z dc fuel listed a w → wpAnyH P .any ops Q S fuel listed a w by
    rintro listed rfl hu
    exact H 7 _ a0 W0 ⟨false, false, false, false, false, false, false, undef, undef, undef, undef, undef, rfl, rfl, hu.symm, Below.refl _ _, fun x => absurd x (by decide), fun x => absurd x (by decide), fun x => absurd x (by decide),
      fun x => absurd x (by decide), fun x => absurd x (by decide), fun x => absurd x (by decide), fun x => absurd x (by decide), fun x => absurd x (by decide)⟩
  refine wpAnyH_inv _ ?_ ?_ ?_
  · rintro fuel listed a w i ⟨b2, b10, b11, b12, b13, b14, b15, v10, v11, v47, v55, v56, rfl, hfu, rfl, hB, H2, H11, H10, H12, H13, Hne, O14, O15⟩ hr
    obtain ⟨hun, o, ho, hall⟩ := ready_spec hr
    have hi16 : i < 16 := by
      have := (Array.getElem?_eq_some_iff.1 ho).1
      omega
    obtain ⟨ev10, ev11, ev47, ev55, ev56⟩ := eval_at a0 ha v10 v11 v47 v55 v56
    have hw0 : W0.heap.size ≤ w.heap.size := hB.size
    have hcases : i = 2 ∨ i = 10 ∨ i = 11 ∨ i = 12 ∨ i = 13 ∨ i = 14 ∨ i = 15 := by
      rcases i with _ | _ | _ | _ | _ | _ | _ | _ | _ | _ | _ | _ | _ | _ | _ | _ | i
      all_goals first
        | omega
        | (exfalso; simp [lst] at hun; done)
    rcases hcases with rfl | rfl | rfl | rfl | rfl | rfl | rfl
    · obtain rfl : b2 = false := by simpa [lst] using hun
      refine op_call f [.tmp 45, .tmp 46] ts [va, vb] h2 g2 p2 (by simp [eval_put5, a45, a46]) (rf _ _ _) ?_
      refine (c1 w hB).mono ?_
      rintro e w' ⟨rfl, hb⟩
      have hB' := below_then hB hw0 hb
      refine ⟨_, rfl, hS _ hB', true, b10, b11, b12, b13, b14, b15, v10, v11, D, v55, v56, rfl, by simp [cnt] at hfu ⊢; omega, by rw [d2, put5_47], hB', fun _ => rfl, H11, fun x y => ?_, fun x => (H12 x).keep hb, fun x => (H13 x).keep hb, Hne, fun x => ⟨rfl, (O14 x).2⟩, O15⟩
      obtain ⟨g, e1, e2⟩ := H10 x y
      exact ⟨g, e1, hp_below hb e2⟩
    · obtain rfl : b10 = false := by simpa [lst] using hun
      have hb : Below w.heap.size w (w.alloc (.cells #[s1, s2] te)) := (Below.refl _ _).alloc (Nat.le_refl _) _
      have hB' := below_then hB hw0 hb
      refine op_plain _ h10 g10 (r10 _ w (by simp [eval_put5, a51]) (by simp [eval_put5, a54])) ?_
      exact ⟨hS _ hB', b2, true, b11, b12, b13, b14, b15, v10, v11, v47, _, v56, rfl, by simp [cnt] at hfu ⊢; omega, by rw [d10, put5_55], hB', H2, H11, fun _ _ => ⟨_, rfl, hp_a1 _ _⟩, fun x => (H12 x).keep hb, fun x => (H13 x).keep hb, Hne, O14, O15⟩
    · obtain rfl : b11 = false := by simpa [lst] using hun
      obtain rfl : o = o11 := Option.some.inj (ho.symm.trans h11)
      obtain ⟨q2, q10⟩ := e11 _ hall
      obtain rfl : b2 = true := by simpa [lst] using q2
      obtain rfl : b10 = true := by simpa [lst] using q10
      have hb14 : b14 = false := by
        rcases b14 with _ | _
        · rfl
        · exact absurd (O14 rfl).2.1 (by decide)
      obtain ⟨g, rfl, hg⟩ := H10 rfl hb14
      refine op_call f [.tmp 48, .tmp 55] ts' [va, .slice (some ⟨g, 0, none⟩) 2 2] ho g11 p11 (by simp [eval_put5, a48, ev55]) (rf _ _ _) ?_
      refine (c2 w g hB hg).mono ?_
      rintro e w' ⟨rfl, hb⟩
      have hB' := below_then hB hw0 hb
      exact ⟨_, rfl, hS _ hB', true, true, true, b12, b13, b14, b15, v10, v11, v47, _, D, rfl, by simp [cnt] at hfu ⊢; omega, by rw [d11, put5_56], hB', H2, fun _ => rfl, fun _ _ => ⟨g, rfl, hp_below hb hg⟩, fun x => (H12 x).keep hb, fun x => (H13 x).keep hb, Hne, fun x => ⟨rfl, rfl, (O14 x).2.2⟩, O15⟩
    · obtain rfl : b12 = false := by simpa [lst] using hun
      have hb : Below w.heap.size w (w.alloc (.cells z T)) := (Below.refl _ _).alloc (Nat.le_refl _) _
      have hB' := below_then hB hw0 hb
      have hb14 : b14 = false := by
        rcases b14 with _ | _
        · rfl
        · exact absurd (O14 rfl).2.2.1 (by decide)
      subst hb14
      refine op_plain _ h12 g12 (r12 _ w) ?_
      refine ⟨hS _ hB', b2, b10, b11, true, b13, false, b15, _, v11, v47, v55, v56, rfl, by simp [cnt] at hfu ⊢; omega, by rw [d12, put5_10], hB', H2, H11, fun x y => ?_, fun _ => ⟨_, rfl, hw0, hp_a1 _ _⟩, fun x => (H13 x).keep hb, fun _ x => ?_, fun x => absurd x (by decide), O15⟩
      · obtain ⟨g, e1, e2⟩ := H10 x y
        exact ⟨g, e1, hp_below hb e2⟩
      · rintro rfl
        exact absurd (H13 x).lt (by omega)
    · obtain rfl : b13 = false := by simpa [lst] using hun
      have hb : Below w.heap.size w (w.alloc (.cells z T)) := (Below.refl _ _).alloc (Nat.le_refl _) _
      have hB' := below_then hB hw0 hb
      have hb14 : b14 = false := by
        rcases b14 with _ | _
        · rfl
        · exact absurd (O14 rfl).2.2.2 (by decide)
      subst hb14
      have hb15 : b15 = false := by
        rcases b15 with _ | _
        · rfl
        · exact absurd (O15 rfl) (by decide)
      subst hb15
      refine op_plain _ h13 g13 (r13 _ w) ?_
      refine ⟨hS _ hB', b2, b10, b11, b12, true, false, false, v10, _, v47, v55, v56, rfl, by simp [cnt] at hfu ⊢; omega, by rw [d13, put5_11], hB', H2, H11, fun x y => ?_, fun x => (H12 x).keep hb, fun _ => ⟨_, rfl, hw0, hp_a1 _ _⟩, fun x _ => ?_, fun x => absurd x (by decide), fun x => absurd x (by decide)⟩
      · obtain ⟨g, e1, e2⟩ := H10 x y
        exact ⟨g, e1, hp_below hb e2⟩
      · rintro rfl
        exact absurd (H12 x).lt (by omega)
    · obtain rfl : b14 = false := by simpa [lst] using hun
      obtain rfl : o = o14 := Option.some.inj (ho.symm.trans h14)
      obtain ⟨q2, q11, q12, q13⟩ := e14 _ hall
      obtain rfl : b2 = true := by simpa [lst] using q2
      obtain rfl : b11 = true := by simpa [lst] using q11
      obtain rfl : b12 = true := by simpa [lst] using q12
      obtain rfl : b13 = true := by simpa [lst] using q13
      have hb15 : b15 = false := by
        rcases b15 with _ | _
        · rfl
        · exact absurd (O15 rfl) (by decide)
      subst hb15
      obtain rfl := H2 rfl
      obtain ⟨g, rfl, hg0, hg⟩ := H12 rfl
      obtain ⟨g', rfl, hg0', hg'⟩ := H13 rfl
      have hgg : g ≠ g' := fun e => Hne rfl rfl (by rw [e])
      refine wpOp_put ho g14 T (.tmp 10) (.tmp 47) p14 g dc ev10 (ev47.trans hD) T z hg hi hz hone ?_
      intro w' hc hw
      have hB' : Below W0.heap.size W0 w' := hB.trans (hw.below hg0)
      exact ⟨hS _ hB', true, b10, true, true, true, true, false, _, _, v47, v55, v56, rfl, by simp [cnt] at hfu ⊢; omega, by rw [d14]; rfl, hB', fun _ => rfl, H11, fun _ x => absurd x (by decide), fun _ => ⟨g, rfl, hg0, hc⟩, fun _ => ⟨g', rfl, hg0', hw.hp (Ne.symm hgg) hg'⟩, Hne, fun _ => ⟨rfl, rfl, rfl, rfl⟩, fun _ => rfl⟩
    · obtain rfl : b15 = false := by simpa [lst] using hun
      obtain rfl : o = o15 := Option.some.inj (ho.symm.trans h15)
      obtain ⟨q11, q13, q14⟩ := e15 _ hall
      obtain rfl : b11 = true := by simpa [lst] using q11
      obtain rfl : b13 = true := by simpa [lst] using q13
      obtain rfl : b14 = true := by simpa [lst] using q14
      obtain ⟨rfl, _, rfl, _⟩ := O14 rfl
      obtain rfl := H11 rfl
      obtain ⟨g, rfl, hg0, hg⟩ := H12 rfl
      obtain ⟨g', rfl, hg0', hg'⟩ := H13 rfl
      have hgg : g ≠ g' := fun e => Hne rfl rfl (by rw [e])
      refine wpOp_put ho g15 T (.tmp 11) (.tmp 56) p15 g' dc ev11 (ev56.trans hD) T z hg' hi hz hone ?_
      intro w' hc hw
      have hB' : Below W0.heap.size W0 w' := hB.trans (hw.below hg0')
      exact ⟨hS _ hB', true, b10, true, true, true, true, true, _, _, v47, v55, v56, rfl, by simp [cnt] at hfu ⊢; omega, by rw [d15]; rfl, hB', H2, fun _ => rfl, fun _ x => absurd x (by decide), fun _ => ⟨g, rfl, hg0, hw.hp hgg hg⟩, fun _ => ⟨g', rfl, hg0', hc⟩, Hne, fun _ => ⟨rfl, rfl, rfl, rfl⟩, fun _ => rfl⟩
  · rintro fuel listed a w ⟨b2, b10, b11, b12, b13, b14, b15, v10, v11, v47, v55, v56, rfl, hfu, rfl, hB, H2, H11, H10, H12, H13, Hne, O14, O15⟩ hr
    obtain ⟨rfl, rfl⟩ := hrd _ _ _ _ _ _ _ hr
    obtain ⟨rfl, rfl, rfl, rfl⟩ := O14 rfl
    obtain rfl := H2 rfl
    obtain rfl := H11 rfl
    exact hQ _ _ _ _ hB (H12 rfl) (H13 rfl)
  · rintro listed a w ⟨b2, b10, b11, b12, b13, b14, b15, v10, v11, v47, v55, v56, rfl, hfu, rfl, hB, H2, H11, H10, H12, H13, Hne, O14, O15⟩
    have hc : ∀ b : Bool, cnt b = 0 → b = true := by decide
    rw [hc b2 (by omega), hc b10 (by omega), hc b11 (by omega), hc b12 (by omega), hc b13 (by omega), hc b14 (by omega), hc b15 (by omega)]
    exact hra
theorem run_op_build2 {a : Act} {o : Oper} {w w1 : World} (t : TypeId) (x y : Operand) (s1 s2 v : Value) (ho : o.op = .buildSlice t 2 #[(0, x), (1, y)]) (hx : a.eval x = s1) (hy : a.eval y = s2)
    (h : (Instr.buildSlice t 2 #[(0, s1), (1, s2)]).run P w = .ok v w1) : (execOp a.eval o).run P w = .ok (.value v) w1 := by
  unfold execOp
  simp only [ho, List.map_toArray, List.map_cons, List.map_nil, hx, hy, Sem.run_bind, h, Result.andThen_ok, Sem.run_pure]
end
end Mur
