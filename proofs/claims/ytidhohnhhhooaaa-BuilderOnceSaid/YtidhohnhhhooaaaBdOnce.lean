/- What a turn's steps keep: fetched once at most, run only when ready or late. No program in sight. -/
import Derived.Test.YtidhohnhhhooaaaBdSim
namespace Mur
open Go Go.RowKit
/-- Of a turn, the last answer and how often it began to fetch. -/
structure OnceInv (t : Trn) (last fetches : Int) : Prop where
  st : 1 ≤ t.state ∧ t.state ≤ 4
  eq : t.last = last
  l1 : t.state = 1 → last = 0 ∨ last = 1
  l2 : t.state = 2 → last = 2
  l3 : t.state = 3 → last = 3
  l4 : t.state = 4 → last = 4 ∨ last = 5
  f0 : 0 ≤ fetches ∧ fetches ≤ 1
  f1 : t.state = 1 → t.fetched = false → fetches = 0
theorem OnceInv.new (most budget : Int) : OnceInv (Trn.new most budget) 0 0 := ⟨by simp [Trn.new], rfl, by simp, by simp [Trn.new], by simp [Trn.new], by simp [Trn.new], by simp, by simp⟩
structure OnceOut (t : Trn) (now : Int) (f : Fct) (last fetches x : Int) : Prop where
  range : x = 0 ∨ x = 1 ∨ x = 2 ∨ x = 3 ∨ x = 4 ∨ x = 5
  over : t.state = 4 → x = last ∧ (x = 4 ∨ x = 5)
  fetch : x = 2 → last ≠ 2 → fetches = 0
  run : x = 3 → last ≠ 3 → f.ready = false → (t.start now).first + t.most ≤ now
  done : x = 4 → t.state ≠ 4 → f.stored = true ∨ f.ran = true
  wrong : x = 5 → t.state ≠ 4 → f.wrong = true
theorem once_step {t : Trn} {last fetches : Int} (h : OnceInv t last fetches) (now : Int) (f : Fct) :
    OnceOut t now f last fetches (t.Step now f).2 ∧ OnceInv (t.Step now f).1 (t.Step now f).2 (if (t.Step now f).2 = 2 ∧ last ≠ 2 then fetches + 1 else fetches) := by
  obtain ⟨⟨s1, s2⟩, hl, l1, l2, l3, l4, ⟨f0, f0'⟩, f1⟩ := h
  have hst : (t.start now).state = t.state ∧ (t.start now).last = t.last ∧ (t.start now).fetched = t.fetched ∧ (t.start now).most = t.most := by
    unfold Trn.start; split <;> exact ⟨rfl, rfl, rfl, rfl⟩
  unfold Trn.Step
  rw [if_neg (show ¬ t.state = 0 by omega)]
  by_cases h4 : t.state = 4
  · rw [if_pos h4]
    have h5 := l4 h4
    simp only [hl]
    have e : ¬ (last = 2 ∧ last ≠ 2) := by omega
    rw [if_neg e]
    refine ⟨⟨by omega, fun _ => ⟨rfl, h5⟩, by omega, by omega, fun _ hx => absurd h4 hx, fun _ hx => absurd h4 hx⟩, ⟨by rw [hst.1]; omega, by rw [hst.2.1, hl], by rw [hst.1]; omega, by rw [hst.1]; omega, by rw [hst.1]; omega, fun _ => h5, ⟨f0, f0'⟩, by rw [hst.1]; omega⟩⟩
  · rw [if_neg h4]
    generalize hu : t.start now = u at hst ⊢
    obtain ⟨e1, e2, e3, e4⟩ := hst
    obtain ⟨um, ubg, us, ubn, uf, ufd, uft, ul⟩ := u
    simp only at e1 e2 e3 e4
    rw [← e1] at h4 l1 l2 l3 l4 f1 s1 s2
    rw [← e3] at f1
    rw [← e2] at hl
    subst hl
    simp only [Trn.stp, Trn.look]
    by_cases c1 : f.stored = true
    · simp only [c1, if_true]
      refine ⟨⟨by simp, fun hx => absurd (e1.symm ▸ hx) h4, by simp, by simp, fun _ _ => .inl c1, by simp⟩, ⟨by simp, rfl, by simp, by simp, by simp, by simp, by simp [f0, f0'], by simp⟩⟩
    · rw [if_neg c1]
      by_cases c2 : us = 3
      · rw [if_pos c2]
        by_cases c3 : f.ran = true
        · simp only [c3, if_true]
          refine ⟨⟨by simp, fun hx => absurd (e1.symm ▸ hx) h4, by simp, by simp, fun _ _ => .inr c3, by simp⟩, ⟨by simp, rfl, by simp, by simp, by simp, by simp, by simp [f0, f0'], by simp⟩⟩
        · rw [if_neg c3]
          by_cases c4 : f.wrong = true
          · simp only [c4, if_true]
            refine ⟨⟨by simp, fun hx => absurd (e1.symm ▸ hx) h4, by simp, by simp, by simp, fun _ _ => by simp [c4]⟩, ⟨by simp, rfl, by simp, by simp, by simp, by simp, by simp [f0, f0'], by simp⟩⟩
          · rw [if_neg c4]
            have := l3 c2
            refine ⟨⟨by simp, fun hx => absurd (e1.symm ▸ hx) h4, by simp, fun _ hx => absurd this hx, by simp, by simp⟩, ⟨⟨s1, s2⟩, rfl, by simp [c2], by simp [c2], fun _ => rfl, by simp [c2], by simp [f0, f0'], by simp [c2]⟩⟩
      · rw [if_neg c2]
        have key : ∀ (fd : Bool) (s : Int), s = 1 → (fd = false → fetches = 0 ∧ ul ≠ 2) →
            OnceOut t now f ul fetches (if f.heard = true ∧ fd = false then (({ most := um, budget := ubg, state := 2, begun := ubn, first := uf, fetched := fd, fetch := now, last := ul } : Trn), (2 : Int))
              else if f.ready = true ∨ uf + um ≤ now then ({ most := um, budget := ubg, state := 3, begun := ubn, first := uf, fetched := fd, fetch := uft, last := ul }, 3)
              else if f.lease = true then ({ most := um, budget := ubg, state := s, begun := ubn, first := uf, fetched := fd, fetch := uft, last := ul }, 0) else ({ most := um, budget := ubg, state := s, begun := ubn, first := uf, fetched := fd, fetch := uft, last := ul }, 1)).2 ∧
            OnceInv { (if f.heard = true ∧ fd = false then (({ most := um, budget := ubg, state := 2, begun := ubn, first := uf, fetched := fd, fetch := now, last := ul } : Trn), (2 : Int))
              else if f.ready = true ∨ uf + um ≤ now then ({ most := um, budget := ubg, state := 3, begun := ubn, first := uf, fetched := fd, fetch := uft, last := ul }, 3)
              else if f.lease = true then ({ most := um, budget := ubg, state := s, begun := ubn, first := uf, fetched := fd, fetch := uft, last := ul }, 0) else ({ most := um, budget := ubg, state := s, begun := ubn, first := uf, fetched := fd, fetch := uft, last := ul }, 1)).1 with
              last := (if f.heard = true ∧ fd = false then (({ most := um, budget := ubg, state := 2, begun := ubn, first := uf, fetched := fd, fetch := now, last := ul } : Trn), (2 : Int))
              else if f.ready = true ∨ uf + um ≤ now then ({ most := um, budget := ubg, state := 3, begun := ubn, first := uf, fetched := fd, fetch := uft, last := ul }, 3)
              else if f.lease = true then ({ most := um, budget := ubg, state := s, begun := ubn, first := uf, fetched := fd, fetch := uft, last := ul }, 0) else ({ most := um, budget := ubg, state := s, begun := ubn, first := uf, fetched := fd, fetch := uft, last := ul }, 1)).2 }
              (if f.heard = true ∧ fd = false then (({ most := um, budget := ubg, state := 2, begun := ubn, first := uf, fetched := fd, fetch := now, last := ul } : Trn), (2 : Int))
              else if f.ready = true ∨ uf + um ≤ now then ({ most := um, budget := ubg, state := 3, begun := ubn, first := uf, fetched := fd, fetch := uft, last := ul }, 3)
              else if f.lease = true then ({ most := um, budget := ubg, state := s, begun := ubn, first := uf, fetched := fd, fetch := uft, last := ul }, 0) else ({ most := um, budget := ubg, state := s, begun := ubn, first := uf, fetched := fd, fetch := uft, last := ul }, 1)).2
              (if (if f.heard = true ∧ fd = false then (({ most := um, budget := ubg, state := 2, begun := ubn, first := uf, fetched := fd, fetch := now, last := ul } : Trn), (2 : Int))
              else if f.ready = true ∨ uf + um ≤ now then ({ most := um, budget := ubg, state := 3, begun := ubn, first := uf, fetched := fd, fetch := uft, last := ul }, 3)
              else if f.lease = true then ({ most := um, budget := ubg, state := s, begun := ubn, first := uf, fetched := fd, fetch := uft, last := ul }, 0) else ({ most := um, budget := ubg, state := s, begun := ubn, first := uf, fetched := fd, fetch := uft, last := ul }, 1)).2 = 2 ∧ ul ≠ 2 then fetches + 1 else fetches) := by
          intro fd s hs hfd
          subst hs
          by_cases d1 : f.heard = true ∧ fd = false
          · obtain ⟨g1, g2⟩ := hfd d1.2
            simp only [if_pos d1]
            refine ⟨⟨by simp, fun hx => absurd (e1.symm ▸ hx) h4, fun _ _ => g1, by simp, by simp, by simp⟩, ⟨by simp, rfl, by simp, by simp, by simp, by simp, by simp [g2, g1], by simp⟩⟩
          · simp only [if_neg d1]
            by_cases d2 : f.ready = true ∨ uf + um ≤ now
            · simp only [if_pos d2]
              refine ⟨⟨by simp, fun hx => absurd (e1.symm ▸ hx) h4, by simp, fun _ _ hr => ?_, by simp, by simp⟩, ⟨by simp, rfl, by simp, by simp, by simp, by simp, by simp [f0, f0'], by simp⟩⟩
              rcases d2 with d2 | d2
              · rw [hr] at d2; cases d2
              · rw [hu, ← e4]; exact d2
            · simp only [if_neg d2]
              by_cases d3 : f.lease = true
              · simp only [if_pos d3]
                refine ⟨⟨by simp, fun hx => absurd (e1.symm ▸ hx) h4, by simp, by simp, by simp, by simp⟩, ⟨by simp, rfl, by simp, by simp, by simp, by simp, by simp [f0, f0'], fun _ hf => by simp [hfd hf]⟩⟩
              · simp only [if_neg d3]
                refine ⟨⟨by simp, fun hx => absurd (e1.symm ▸ hx) h4, by simp, by simp, by simp, by simp⟩, ⟨by simp, rfl, by simp, by simp, by simp, by simp, by simp [f0, f0'], fun _ hf => by simp [hfd hf]⟩⟩
        by_cases c5 : us = 2
        · rw [if_pos c5]
          by_cases c6 : f.failed = false ∧ now < uft + ubg
          · simp only [if_pos c6]
            have := l2 c5
            refine ⟨⟨by simp, fun hx => absurd (e1.symm ▸ hx) h4, fun _ hx => absurd this hx, by simp, by simp, by simp⟩, ⟨⟨s1, s2⟩, rfl, by simp [c5], fun _ => rfl, by simp [c5], by simp [c5], by simp [this, f0, f0'], by simp [c5]⟩⟩
          · simp only [if_neg c6]
            exact key true 1 rfl (by simp)
        · rw [if_neg c5]
          have h1 : us = 1 := by omega
          have := l1 h1
          exact key ufd us h1 fun hf => ⟨f1 h1 hf, by omega⟩
end Mur
