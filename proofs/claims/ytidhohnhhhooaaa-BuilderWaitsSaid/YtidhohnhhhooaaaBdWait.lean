/- A turn that waits: its steps. No program in sight. -/
import Derived.Test.YtidhohnhhhooaaaBdSim
namespace Mur
open Go Go.RowKit
def waitT (most budget : Int) (bg : Bool) (lst : Int) : Trn := ⟨most, budget, 1, bg, 0, false, 0, lst⟩
theorem wait_new (most budget : Int) : Trn.new most budget = waitT most budget false 0 := rfl
theorem wait_ok {most budget : Int} (hm : 0 ≤ most ∧ most ≤ 1000000) (hb : 0 ≤ budget ∧ budget ≤ 1000000) (bg : Bool) (lst : Int) : (waitT most budget bg lst).Ok := ⟨hm, hb, by simp [waitT], by simp [waitT]⟩
theorem wait_claim {most budget now lst : Int} {bg : Bool} (hn : bg = true ∨ now = 0) (hlt : now < most) : (waitT most budget bg lst).Step now ⟨false, false, false, false, false, false, false, false⟩ = (waitT most budget true 1, 1) := by
  have h : ¬ most ≤ now := by omega
  rcases bg with _ | _
  · obtain rfl : now = 0 := by simpa using hn
    simp [waitT, Trn.Step, Trn.start, Trn.stp, Trn.look, h]
  · simp [waitT, Trn.Step, Trn.start, Trn.stp, Trn.look, h]
theorem wait_lease {most budget now lst : Int} {bg : Bool} (hn : bg = true ∨ now = 0) (hlt : now < most) : (waitT most budget bg lst).Step now ⟨false, false, true, false, false, false, false, false⟩ = (waitT most budget true 0, 0) := by
  have h : ¬ most ≤ now := by omega
  rcases bg with _ | _
  · obtain rfl : now = 0 := by simpa using hn
    simp [waitT, Trn.Step, Trn.start, Trn.stp, Trn.look, h]
  · simp [waitT, Trn.Step, Trn.start, Trn.stp, Trn.look, h]
theorem wait_run {most budget now lst : Int} {bg : Bool} (hn : bg = true ∨ now = 0) (hlt : most ≤ now) (ls : Bool) : ((waitT most budget bg lst).Step now ⟨false, false, ls, false, false, false, false, false⟩).2 = 3 := by
  rcases bg with _ | _
  · obtain rfl : now = 0 := by simpa using hn
    simp [waitT, Trn.Step, Trn.start, Trn.stp, Trn.look, hlt]
  · simp [waitT, Trn.Step, Trn.start, Trn.stp, Trn.look, hlt]
theorem wait_done (most budget now lst : Int) (bg : Bool) : ((waitT most budget bg lst).Step now ⟨true, false, true, false, false, false, false, false⟩).2 = 4 ∧ ((waitT most budget bg lst).Step now ⟨true, false, true, false, false, false, false, false⟩).1.state = 4 := by
  rcases bg with _ | _ <;> simp [waitT, Trn.Step, Trn.start, Trn.stp]
end Mur
