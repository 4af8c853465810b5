/- The builder and its reference go together, step by step. No program in sight. -/
import Derived.Test.YtidhohnhhhooaaaBdRef
namespace Mur
open Go Go.RowKit
/-- A turn and the reference's state go together; first: the tick of the first step. -/
structure Sim (first most budget : Int) (t : Trn) (r : Ref) : Prop where
  st : t.state = r.st + 1
  lo : 0 ≤ r.st
  hi : r.st ≤ 3
  most : t.most = most
  budget : t.budget = budget
  fetched : t.fetched = r.fetched
  fetch : r.st = 1 → t.fetch = r.begin_
  begun : t.begun = true → t.first = first
/-- What is over stays as it was. -/
def Lst (t : Trn) (r : Ref) : Prop := r.st = 3 → t.last = r.out ∧ (r.out = 4 ∨ r.out = 5)
theorem Sim.new (first most budget : Int) : Sim first most budget (Trn.new most budget) ⟨0, false, 0, 0⟩ :=
  ⟨rfl, by decide, by decide, rfl, rfl, rfl, by simp, by simp [Trn.new]⟩
/-- What a step answers. -/
def Ans (t : Trn) (r : Ref) (x : Int) : Prop := x = r.out ∧ ((t.state = 4 ∧ (r.out = 4 ∨ r.out = 5)) ∨ (t.state ≠ 4 ∧ 0 ≤ r.out ∧ r.out ≤ 3))
theorem Sim.look {first most budget now : Int} {t : Trn} {r : Ref} (h : Sim first most budget t r) (h0 : r.st = 0) (hb : t.begun = true) (f : Fct) :
    Sim first most budget (t.look now f).1 (r.look first most now f) ∧ Ans (t.look now f).1 (r.look first most now f) (t.look now f).2 ∧ (t.look now f).1.begun = true := by
  obtain ⟨st, lo, hi, hm, hbg, hfd, hft, hbn⟩ := h
  have hf := hbn hb
  obtain ⟨tm, tbg, ts, tbn, tf, tfd, tft, tl⟩ := t
  obtain ⟨rs, rfd, rb, ro⟩ := r
  simp only at *
  subst hm hbg hfd hf h0 hb
  have hs : ts = 1 := by omega
  subst hs
  unfold Trn.look Ref.look
  simp only
  by_cases h1 : f.heard = true ∧ tfd = false
  · rw [if_pos h1, if_pos h1]
    exact ⟨⟨rfl, by simp, by simp, rfl, rfl, rfl, fun _ => rfl, fun _ => rfl⟩, ⟨rfl, .inr (by simp)⟩, rfl⟩
  · rw [if_neg h1, if_neg h1]
    by_cases h2 : f.ready = true ∨ tf + tm ≤ now
    · rw [if_pos h2, if_pos h2]
      exact ⟨⟨rfl, by simp, by simp, rfl, rfl, rfl, by simp, fun _ => rfl⟩, ⟨rfl, .inr (by simp)⟩, rfl⟩
    · rw [if_neg h2, if_neg h2]
      by_cases h3 : f.lease = true
      · rw [if_pos h3, if_pos h3]
        exact ⟨⟨rfl, by simp, by simp, rfl, rfl, rfl, by simp, fun _ => rfl⟩, ⟨rfl, .inr (by simp)⟩, rfl⟩
      · rw [if_neg h3, if_neg h3]
        exact ⟨⟨rfl, by simp, by simp, rfl, rfl, rfl, by simp, fun _ => rfl⟩, ⟨rfl, .inr (by simp)⟩, rfl⟩
theorem Sim.stp {first most budget now : Int} {t : Trn} {r : Ref} (h : Sim first most budget t r) (h3 : r.st ≠ 3) (hb : t.begun = true) (f : Fct) :
    Sim first most budget (t.stp now f).1 (r.next first most budget now f) ∧ Ans (t.stp now f).1 (r.next first most budget now f) (t.stp now f).2 ∧ (t.stp now f).1.begun = true := by
  have h' := h
  obtain ⟨st, lo, hi, hm, hbg, hfd, hft, hbn⟩ := h
  have hf := hbn hb
  obtain ⟨tm, tbg, ts, tbn, tf, tfd, tft, tl⟩ := t
  obtain ⟨rs, rfd, rb, ro⟩ := r
  simp only at *
  subst hm hbg hfd hf hb st
  unfold Trn.stp Ref.next
  simp only
  rw [if_neg h3]
  by_cases h1 : f.stored = true
  · rw [if_pos h1, if_pos h1]
    exact ⟨⟨rfl, by simp, by simp, rfl, rfl, rfl, by simp, fun _ => rfl⟩, ⟨rfl, .inl (by simp)⟩, rfl⟩
  · rw [if_neg h1, if_neg h1]
    by_cases h2 : rs = 2
    · subst h2
      rw [if_pos (show (2 : Int) + 1 = 3 from rfl), if_pos rfl]
      by_cases h4 : f.ran = true
      · rw [if_pos h4, if_pos h4]
        exact ⟨⟨rfl, by simp, by simp, rfl, rfl, rfl, by simp, fun _ => rfl⟩, ⟨rfl, .inl (by simp)⟩, rfl⟩
      · rw [if_neg h4, if_neg h4]
        by_cases h5 : f.wrong = true
        · rw [if_pos h5, if_pos h5]
          exact ⟨⟨rfl, by simp, by simp, rfl, rfl, rfl, by simp, fun _ => rfl⟩, ⟨rfl, .inl (by simp)⟩, rfl⟩
        · rw [if_neg h5, if_neg h5]
          exact ⟨⟨rfl, by simp, by simp, rfl, rfl, rfl, by simp, fun _ => rfl⟩, ⟨rfl, .inr (by simp)⟩, rfl⟩
    · rw [if_neg (show ¬ rs + 1 = 3 by omega), if_neg h2]
      by_cases h4 : rs = 1
      · subst h4
        have hft' := hft rfl
        subst hft'
        rw [if_pos (show (1 : Int) + 1 = 2 from rfl), if_pos rfl]
        by_cases h5 : f.failed = false ∧ now < tft + tbg
        · rw [if_pos h5, if_pos h5]
          exact ⟨⟨rfl, by simp, by simp, rfl, rfl, rfl, fun _ => rfl, fun _ => rfl⟩, ⟨rfl, .inr (by simp)⟩, rfl⟩
        · rw [if_neg h5, if_neg h5]
          exact Sim.look (t := ⟨tm, tbg, 1, true, tf, true, tft, tl⟩) (r := ⟨0, true, tft, ro⟩) ⟨rfl, by simp, by simp, rfl, rfl, rfl, by simp, fun _ => rfl⟩ rfl rfl f
      · rw [if_neg (show ¬ rs + 1 = 2 by omega), if_neg h4]
        exact h'.look (show rs = 0 by omega) rfl f
theorem Sim.Step {first most budget now : Int} {t : Trn} {r : Ref} (h : Sim first most budget t r) (hl : Lst t r) (hb : t.begun = true ∨ now = first) (f : Fct) :
    Sim first most budget (t.Step now f).1 (r.next first most budget now f) ∧ Lst (t.Step now f).1 (r.next first most budget now f) ∧ Ans (t.Step now f).1 (r.next first most budget now f) (t.Step now f).2 ∧ (t.Step now f).1.begun = true := by
  have hstart : Sim first most budget (t.start now) r ∧ (t.start now).begun = true ∧ (t.start now).last = t.last := by
    unfold Trn.start
    split
    · rename_i hx
      exact ⟨h, hx, rfl⟩
    · rename_i hx
      have hn : now = first := hb.resolve_left hx
      exact ⟨⟨h.st, h.lo, h.hi, h.most, h.budget, h.fetched, h.fetch, fun _ => hn⟩, rfl, rfl⟩
  have h1 := h.lo
  have h2 := h.st
  unfold Trn.Step
  rw [if_neg (show ¬ t.state = 0 by omega)]
  by_cases h3 : r.st = 3
  · rw [if_pos (show t.state = 4 by omega)]
    have hn : r.next first most budget now f = r := by unfold Ref.next; rw [if_pos h3]
    obtain ⟨hl1, ho⟩ := hl h3
    rw [hn]
    refine ⟨hstart.1, fun _ => ⟨hstart.2.2.trans hl1, ho⟩, ⟨hl1, .inl ⟨?_, ho⟩⟩, hstart.2.1⟩
    have := hstart.1.st
    show (t.start now).state = 4
    omega
  · rw [if_neg (show ¬ t.state = 4 by omega)]
    obtain ⟨s1, s2, s3⟩ := hstart.1.stp h3 hstart.2.1 f (now := now)
    refine ⟨⟨s1.st, s1.lo, s1.hi, s1.most, s1.budget, s1.fetched, s1.fetch, s1.begun⟩, fun hx => ?_, s2, s3⟩
    obtain ⟨e1, e2⟩ := s2
    refine ⟨e1, ?_⟩
    have := s1.st
    rcases e2 with e2 | e2
    · exact e2.2
    · exact absurd (show _ = (4 : Int) by omega) e2.1
def clip (hi x : Int) : Int := if hi < (if 0 > x then 0 else x) then hi else (if 0 > x then 0 else x)
theorem clip_range {hi : Int} (h : 0 ≤ hi) (x : Int) : 0 ≤ clip hi x ∧ clip hi x ≤ hi := by
  unfold clip
  (repeat' split) <;> omega
/-- What is told: the ticks rise from 'now' on. -/
def tick (hi now : Int) : Tls → Nat → Int
  | _, 0 => now
  | l, k + 1 => tick hi now l k + clip hi (l.getD k (0, ⟨false, false, false, false, false, false, false, false⟩)).1
def toldTo (hi now : Int) (l : Tls) (k : Nat) : Tls := (List.range k).map fun j => (tick hi now l (j + 1), (l.getD j (0, ⟨false, false, false, false, false, false, false, false⟩)).2)
theorem tick_range {hi now : Int} (h0 : 0 ≤ hi) (l : Tls) : ∀ k : Nat, now ≤ tick hi now l k ∧ tick hi now l k ≤ now + hi * k
  | 0 => by simp [tick]
  | k + 1 => by
    have h1 := tick_range h0 l k (now := now)
    have h2 := clip_range h0 (l.getD k (0, ⟨false, false, false, false, false, false, false, false⟩)).1
    unfold tick
    have : hi * ((k + 1 : Nat) : Int) = hi * k + hi := by rw [Int.natCast_add, Int.mul_add]; simp
    omega
theorem tick_succ {hi now : Int} {l : Tls} {k : Nat} {x : Int} {f : Fct} (h : l[k]? = some (x, f)) : tick hi now l (k + 1) = tick hi now l k + clip hi x := by
  rw [tick, List.getD_eq_getElem?_getD, h]
  rfl
theorem toldTo_length (hi now : Int) (l : Tls) (k : Nat) : (toldTo hi now l k).length = k := by simp [toldTo]
theorem toldTo_succ {hi now : Int} {l : Tls} {k : Nat} {x : Int} {f : Fct} (h : l[k]? = some (x, f)) : toldTo hi now l (k + 1) = toldTo hi now l k ++ [(tick hi now l (k + 1), f)] := by
  unfold toldTo
  rw [List.range_succ, List.map_append, List.map_singleton]
  simp only [List.getD_eq_getElem?_getD, h, Option.getD_some]
theorem toldTo_get {hi now : Int} {l : Tls} {n j : Nat} (h : j < n) : (toldTo hi now l n)[j]? = some (tick hi now l (j + 1), (l.getD j (0, ⟨false, false, false, false, false, false, false, false⟩)).2) := by
  simp [toldTo, h]
/-- A longer row's beginning answers as the shorter row. -/
theorem refTo_prefix {most budget : Int} {l m : Tls} : ∀ {k : Nat}, k ≤ l.length → (∀ j, j < l.length → m[j]? = l[j]?) → refTo most budget m k = refTo most budget l k
  | 0, _, _ => rfl
  | k + 1, hk, h => by
    have hf : firstOf m = firstOf l := by
      unfold firstOf
      simp only [List.getD_eq_getElem?_getD, h 0 (by omega)]
    rw [refTo, refTo, h k (by omega), refTo_prefix (by omega) h, hf]
/-- The turn behind k steps. -/
def trnTo (hi now most budget : Int) (l : Tls) : Nat → Trn
  | 0 => Trn.new most budget
  | k + 1 => ((trnTo hi now most budget l k).Step (tick hi now l (k + 1)) (l.getD k (0, ⟨false, false, false, false, false, false, false, false⟩)).2).1
theorem sim_told (hi now most budget : Int) (l : Tls) (n : Nat) : ∀ k, k ≤ n → Sim (tick hi now l 1) most budget (trnTo hi now most budget l k) (refTo most budget (toldTo hi now l n) k) ∧ Lst (trnTo hi now most budget l k) (refTo most budget (toldTo hi now l n) k) ∧ (1 ≤ k → (trnTo hi now most budget l k).begun = true)
  | 0, _ => ⟨Sim.new _ _ _, by simp [Lst, refTo], by omega⟩
  | k + 1, hk => by
    obtain ⟨h1, hl, h2⟩ := sim_told hi now most budget l n k (by omega)
    have hfirst : firstOf (toldTo hi now l n) = tick hi now l 1 := by
      unfold firstOf
      rw [List.getD_eq_getElem?_getD, toldTo_get (by omega)]
      rfl
    have hb : (trnTo hi now most budget l k).begun = true ∨ tick hi now l (k + 1) = tick hi now l 1 := by
      rcases k with _ | k
      · exact .inr rfl
      · exact .inl (h2 (by omega))
    have h3 := h1.Step hl hb (l.getD k (0, ⟨false, false, false, false, false, false, false, false⟩)).2
    rw [trnTo, refTo, toldTo_get (by omega), hfirst]
    exact ⟨h3.1, h3.2.1, fun _ => h3.2.2.2⟩
/-- The step's answer is the reference's. -/
theorem ans_told (hi now most budget : Int) (l : Tls) (k : Nat) {x : Int} {f : Fct} (hx : l[k]? = some (x, f)) :
    Ans (trnTo hi now most budget l (k + 1)) (refTo most budget (toldTo hi now l (k + 1)) (k + 1)) ((trnTo hi now most budget l k).Step (tick hi now l (k + 1)) f).2 := by
  obtain ⟨h1, hl, h2⟩ := sim_told hi now most budget l (k + 1) k (by omega)
  have hfirst : firstOf (toldTo hi now l (k + 1)) = tick hi now l 1 := by
    unfold firstOf
    rw [List.getD_eq_getElem?_getD, toldTo_get (by omega)]
    rfl
  have hb : (trnTo hi now most budget l k).begun = true ∨ tick hi now l (k + 1) = tick hi now l 1 := by
    rcases k with _ | k
    · exact .inr rfl
    · exact .inl (h2 (by omega))
  have h3 := h1.Step hl hb f
  have e : (l.getD k (0, ⟨false, false, false, false, false, false, false, false⟩)).2 = f := by rw [List.getD_eq_getElem?_getD, hx]; rfl
  rw [trnTo, refTo, toldTo_get (by omega), hfirst, e]
  exact h3.2.2.1
end Mur
