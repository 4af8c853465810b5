/- A turn ends. No program in sight. -/
import Derived.Test.YtidhohnhhhooaaaBdSim
namespace Mur
open Go Go.RowKit
structure EndsInv (most budget : Int) (k : Nat) (t : Trn) (ran : Int) : Prop where
  ok : t.Ok
  em : t.most = most
  eb : t.budget = budget
  first : t.begun = true → t.first = 0
  beg : t.begun = true ∨ k = 0
  st : 1 ≤ t.state ∧ t.state ≤ 4
  s1 : t.state = 1 → (k : Int) ≤ most
  s2 : t.state = 2 → t.fetch ≤ most ∧ ((k : Int) ≤ t.fetch + budget ∨ (k : Int) ≤ most + 1)
  s4 : t.state = 4 → t.last = 4 ∨ t.last = 5
  r0 : 0 ≤ ran → t.state = 3 ∨ t.state = 4
  r1 : t.state = 3 → 0 ≤ ran
  rr : -1 ≤ ran ∧ ran ≤ 1000000
structure EndsOut (most budget : Int) (k : Nat) (f : Fct) (ran x : Int) (t : Trn) : Prop where
  range : x = 0 ∨ x = 1 ∨ x = 2 ∨ x = 3 ∨ x = 4 ∨ x = 5
  early : x ≤ 2 → (k : Int) ≤ most + budget ∧ ran < 0
  told : x = 3 → 0 ≤ ran → f.ran = false ∧ f.wrong = false ∧ f.stored = false
  over : (t.state == 4) = decide (4 ≤ x)
theorem EndsInv.new {most budget : Int} (hm : 0 ≤ most ∧ most ≤ 1000000) (hb : 0 ≤ budget ∧ budget ≤ 1000000) : EndsInv most budget 0 (Trn.new most budget) (-1) :=
  ⟨⟨hm, hb, by simp [Trn.new], by simp [Trn.new]⟩, rfl, rfl, by simp [Trn.new], .inr rfl, by simp [Trn.new], fun _ => hm.1, by simp [Trn.new], by simp [Trn.new], by omega, by simp [Trn.new], by omega⟩
theorem ends_step {most budget : Int} {k : Nat} {t : Trn} {ran : Int} (h : EndsInv most budget k t ran) (hk : (k : Int) ≤ 1000000) (f : Fct) :
    EndsOut most budget k f ran (t.Step k f).2 (t.Step k f).1 ∧ EndsInv most budget (k + 1) (t.Step k f).1 (if (t.Step k f).2 = 3 ∧ ran < 0 then (k : Int) else ran) := by
  obtain ⟨ok, hm, hb, hf, hbg, ⟨st1, st2⟩, s1, s2, s4, r0, r1, ⟨rr1, rr2⟩⟩ := h
  have hok := ok.Step (k : Int) ⟨by omega, by omega⟩ f
  have hst : (t.start k).state = t.state ∧ (t.start k).last = t.last ∧ (t.start k).fetch = t.fetch ∧ (t.start k).most = most ∧ (t.start k).budget = budget ∧ (t.start k).begun = true ∧ (t.start k).first = 0 := by
    unfold Trn.start
    split
    · rename_i hx
      exact ⟨rfl, rfl, rfl, hm, hb, hx, hf hx⟩
    · rename_i hx
      have : k = 0 := hbg.resolve_left hx
      exact ⟨rfl, rfl, rfl, hm, hb, rfl, by simp [this]⟩
  have b1 := ok.budget
  have b2 := ok.most
  rw [hb] at b1
  rw [hm] at b2
  revert hok
  unfold Trn.Step
  rw [if_neg (show ¬ t.state = 0 by omega)]
  generalize hu : t.start k = u at hst ⊢
  obtain ⟨um, ubg, us, ubn, uf, ufd, uft, ul⟩ := u
  obtain ⟨e1, e2, e3, e4, e5, e6, e7⟩ := hst
  simp only at e1 e2 e3 e4 e5 e6 e7
  rw [← e1] at st1 st2 s1 s2 s4 r0 r1 ⊢
  rw [← e3] at s2
  rw [← e2] at s4
  subst e4 e5 e6 e7
  by_cases h4 : us = 4
  · rw [if_pos h4]
    intro hok
    have h5 := s4 h4
    simp only [← e2]
    rw [if_neg (show ¬ (ul = 3 ∧ ran < 0) by omega)]
    refine ⟨⟨by omega, by omega, by omega, ?_⟩, ⟨hok, rfl, rfl, fun _ => rfl, .inl rfl, ⟨st1, st2⟩, by simp only; omega, by simp only; omega, fun _ => h5, fun _ => .inr h4, by simp only; omega, ⟨rr1, rr2⟩⟩⟩
    rw [decide_eq_true (show 4 ≤ ul by omega)]
    simpa using h4
  · rw [if_neg h4]
    simp only [Trn.stp, Trn.look]
    by_cases c1 : f.stored = true
    · simp only [if_pos c1]
      intro hok
      exact ⟨⟨by simp, by simp, by simp, by simp⟩, ⟨hok, rfl, rfl, fun _ => rfl, .inl rfl, by simp, by simp, by simp, by simp, by simp, by simp, by simp; omega⟩⟩
    · simp only [if_neg c1]
      have c1' : f.stored = false := by simpa using c1
      by_cases c2 : us = 3
      · simp only [if_pos c2]
        have hr := r1 c2
        by_cases c3 : f.ran = true
        · simp only [if_pos c3]
          intro hok
          exact ⟨⟨by simp, by simp, by simp, by simp⟩, ⟨hok, rfl, rfl, fun _ => rfl, .inl rfl, by simp, by simp, by simp, by simp, by simp, by simp, by simp; omega⟩⟩
        · simp only [if_neg c3]
          by_cases c4 : f.wrong = true
          · simp only [if_pos c4]
            intro hok
            exact ⟨⟨by simp, by simp, by simp, by simp⟩, ⟨hok, rfl, rfl, fun _ => rfl, .inl rfl, by simp, by simp, by simp, by simp, by simp, by simp, by simp; omega⟩⟩
          · simp only [if_neg c4]
            intro hok
            rw [if_neg (show ¬ (True ∧ ran < 0) by omega)]
            refine ⟨⟨by simp, by simp, fun _ _ => ⟨by simpa using c3, by simpa using c4, c1'⟩, by simp [c2]⟩, ⟨hok, rfl, rfl, fun _ => rfl, .inl rfl, ⟨st1, st2⟩, by simp [c2], by simp [c2], by simp [c2], fun _ => .inl c2, fun _ => hr, ⟨rr1, rr2⟩⟩⟩
      · simp only [if_neg c2]
        have hran : ran < 0 := by omega
        have key : ∀ (fd : Bool), (fd = false → (k : Int) ≤ um) → ∀ (s : Int), s = 1 →
            ({ ((if f.heard = true ∧ fd = false then (({ most := um, budget := ubg, state := 2, begun := true, first := 0, fetched := fd, fetch := (k : Int), last := ul } : Trn), (2 : Int))
              else if f.ready = true ∨ 0 + um ≤ (k : Int) then ({ most := um, budget := ubg, state := 3, begun := true, first := 0, fetched := fd, fetch := uft, last := ul }, 3)
              else if f.lease = true then ({ most := um, budget := ubg, state := s, begun := true, first := 0, fetched := fd, fetch := uft, last := ul }, 0) else ({ most := um, budget := ubg, state := s, begun := true, first := 0, fetched := fd, fetch := uft, last := ul }, 1)).1) with
              last := ((if f.heard = true ∧ fd = false then (({ most := um, budget := ubg, state := 2, begun := true, first := 0, fetched := fd, fetch := (k : Int), last := ul } : Trn), (2 : Int))
              else if f.ready = true ∨ 0 + um ≤ (k : Int) then ({ most := um, budget := ubg, state := 3, begun := true, first := 0, fetched := fd, fetch := uft, last := ul }, 3)
              else if f.lease = true then ({ most := um, budget := ubg, state := s, begun := true, first := 0, fetched := fd, fetch := uft, last := ul }, 0) else ({ most := um, budget := ubg, state := s, begun := true, first := 0, fetched := fd, fetch := uft, last := ul }, 1)).2) } : Trn).Ok →
            EndsOut um ubg k f ran (if f.heard = true ∧ fd = false then (({ most := um, budget := ubg, state := 2, begun := true, first := 0, fetched := fd, fetch := (k : Int), last := ul } : Trn), (2 : Int))
              else if f.ready = true ∨ 0 + um ≤ (k : Int) then ({ most := um, budget := ubg, state := 3, begun := true, first := 0, fetched := fd, fetch := uft, last := ul }, 3)
              else if f.lease = true then ({ most := um, budget := ubg, state := s, begun := true, first := 0, fetched := fd, fetch := uft, last := ul }, 0) else ({ most := um, budget := ubg, state := s, begun := true, first := 0, fetched := fd, fetch := uft, last := ul }, 1)).2
              { ((if f.heard = true ∧ fd = false then (({ most := um, budget := ubg, state := 2, begun := true, first := 0, fetched := fd, fetch := (k : Int), last := ul } : Trn), (2 : Int))
              else if f.ready = true ∨ 0 + um ≤ (k : Int) then ({ most := um, budget := ubg, state := 3, begun := true, first := 0, fetched := fd, fetch := uft, last := ul }, 3)
              else if f.lease = true then ({ most := um, budget := ubg, state := s, begun := true, first := 0, fetched := fd, fetch := uft, last := ul }, 0) else ({ most := um, budget := ubg, state := s, begun := true, first := 0, fetched := fd, fetch := uft, last := ul }, 1)).1) with
              last := ((if f.heard = true ∧ fd = false then (({ most := um, budget := ubg, state := 2, begun := true, first := 0, fetched := fd, fetch := (k : Int), last := ul } : Trn), (2 : Int))
              else if f.ready = true ∨ 0 + um ≤ (k : Int) then ({ most := um, budget := ubg, state := 3, begun := true, first := 0, fetched := fd, fetch := uft, last := ul }, 3)
              else if f.lease = true then ({ most := um, budget := ubg, state := s, begun := true, first := 0, fetched := fd, fetch := uft, last := ul }, 0) else ({ most := um, budget := ubg, state := s, begun := true, first := 0, fetched := fd, fetch := uft, last := ul }, 1)).2) } ∧
            EndsInv um ubg (k + 1) { ((if f.heard = true ∧ fd = false then (({ most := um, budget := ubg, state := 2, begun := true, first := 0, fetched := fd, fetch := (k : Int), last := ul } : Trn), (2 : Int))
              else if f.ready = true ∨ 0 + um ≤ (k : Int) then ({ most := um, budget := ubg, state := 3, begun := true, first := 0, fetched := fd, fetch := uft, last := ul }, 3)
              else if f.lease = true then ({ most := um, budget := ubg, state := s, begun := true, first := 0, fetched := fd, fetch := uft, last := ul }, 0) else ({ most := um, budget := ubg, state := s, begun := true, first := 0, fetched := fd, fetch := uft, last := ul }, 1)).1) with
              last := ((if f.heard = true ∧ fd = false then (({ most := um, budget := ubg, state := 2, begun := true, first := 0, fetched := fd, fetch := (k : Int), last := ul } : Trn), (2 : Int))
              else if f.ready = true ∨ 0 + um ≤ (k : Int) then ({ most := um, budget := ubg, state := 3, begun := true, first := 0, fetched := fd, fetch := uft, last := ul }, 3)
              else if f.lease = true then ({ most := um, budget := ubg, state := s, begun := true, first := 0, fetched := fd, fetch := uft, last := ul }, 0) else ({ most := um, budget := ubg, state := s, begun := true, first := 0, fetched := fd, fetch := uft, last := ul }, 1)).2) }
              (if (if f.heard = true ∧ fd = false then (({ most := um, budget := ubg, state := 2, begun := true, first := 0, fetched := fd, fetch := (k : Int), last := ul } : Trn), (2 : Int))
              else if f.ready = true ∨ 0 + um ≤ (k : Int) then ({ most := um, budget := ubg, state := 3, begun := true, first := 0, fetched := fd, fetch := uft, last := ul }, 3)
              else if f.lease = true then ({ most := um, budget := ubg, state := s, begun := true, first := 0, fetched := fd, fetch := uft, last := ul }, 0) else ({ most := um, budget := ubg, state := s, begun := true, first := 0, fetched := fd, fetch := uft, last := ul }, 1)).2 = 3 ∧ ran < 0 then (k : Int) else ran) := by
          intro fd hfd s hs
          subst hs
          by_cases d1 : f.heard = true ∧ fd = false
          · have := hfd d1.2
            simp only [if_pos d1]
            intro hok
            exact ⟨⟨by simp, fun _ => ⟨by omega, hran⟩, by simp, by simp⟩, ⟨hok, rfl, rfl, fun _ => rfl, .inl rfl, by simp, by simp, fun _ => ⟨this, .inr (by omega)⟩, by simp, by simp; omega, by simp, by simp; omega⟩⟩
          · simp only [if_neg d1]
            by_cases d2 : f.ready = true ∨ 0 + um ≤ (k : Int)
            · simp only [if_pos d2]
              intro hok
              exact ⟨⟨by simp, by simp, fun _ hx => absurd hx (by omega), by simp⟩, ⟨hok, rfl, rfl, fun _ => rfl, .inl rfl, by simp, by simp, by simp, by simp, by simp, by simp [hran], by simp [hran]; omega⟩⟩
            · simp only [if_neg d2]
              have hlt : (k : Int) < um := by omega
              by_cases d3 : f.lease = true
              · simp only [if_pos d3]
                intro hok
                exact ⟨⟨by simp, fun _ => ⟨by omega, hran⟩, by simp, by simp⟩, ⟨hok, rfl, rfl, fun _ => rfl, .inl rfl, by simp, fun _ => (by omega), by simp, by simp, by simp; omega, by simp, by simp; omega⟩⟩
              · simp only [if_neg d3]
                intro hok
                exact ⟨⟨by simp, fun _ => ⟨by omega, hran⟩, by simp, by simp⟩, ⟨hok, rfl, rfl, fun _ => rfl, .inl rfl, by simp, fun _ => (by omega), by simp, by simp, by simp; omega, by simp, by simp; omega⟩⟩
        by_cases c5 : us = 2
        · simp only [if_pos c5]
          obtain ⟨g1, g2⟩ := s2 c5
          by_cases c6 : f.failed = false ∧ (k : Int) < uft + ubg
          · simp only [if_pos c6]
            intro hok
            exact ⟨⟨by simp, fun _ => ⟨by omega, hran⟩, by simp, by simp [c5]⟩, ⟨hok, rfl, rfl, fun _ => rfl, .inl rfl, ⟨st1, st2⟩, by simp [c5], fun _ => ⟨g1, .inl (by simp only; omega)⟩, by simp [c5], by simp [c5]; omega, by simp [c5], by simp; omega⟩⟩
          · simp only [if_neg c6]
            intro hok
            exact key true (by simp) 1 rfl hok
        · simp only [if_neg c5]
          have h1 : us = 1 := by omega
          have := s1 h1
          exact key ufd (fun _ => this) us h1
end Mur
