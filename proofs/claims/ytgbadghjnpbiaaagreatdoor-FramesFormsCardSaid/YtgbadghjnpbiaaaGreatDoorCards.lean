/-
  DERIVED. GIVEN WITH THE SEED: THE CARDS: each row of YtgbadghjnpbiaaaGreatDoorRows.lean that lists a variable, with what it lists TIED to the program's text (the seventh form; the later family's looks); each row that meets fmt, with fmt's text TOLD by the authors' own Lean function (tested against real Go, not proved from fmt's source: count such statements apart). THE CARD IS WHAT COUNTS. Prove the row's statement (the work); the ties are given (YtgbadghjnpbiaaaGreatDoorTie.lean); close each card by the builder's one call (the guide's Derived/Test/ToyasCard.lean, 'card_holds'). Laid BY PROGRAM, IN A SANDBOX (cutbox-door.mjs). By AI agents, Wed Nov 11 2026. No macro, syntax, notation, axiom, sorry.
-/
import Derived.Test.YtgbadghjnpbiaaaGreatDoorRows
import GoSem.ClaimSeven
namespace Go.Proofs.YtgbadghjnpbiaaaGreatDoor
namespace Rows

/-- THE TIED CARD OF 'murmurationlaw25.FramesForms'. -/
def framesFormsCard : Claim7 := { stood := { row := framesFormsRow, standIns := [], harness := (true, "a9d09e2438febb46cb7461e74278caebe705ac8a921222d69f4e7f4d0cc18f36"), looks := false }, kinds := [], alts := [], laidByText := true, laidKinds := [.data, .data], laidTests := true, laidLooks := .later }
def FramesFormsCardSaid : Prop := Claim7.holds Tryz.pinned (.plain (OpenSpec.ofChange framesFormsSpec)) framesFormsCard

/-- THE TIED CARD OF 'murmurationlaw25.FramesReads'. -/
def framesReadsCard : Claim7 := { stood := { row := framesReadsRow, standIns := [], harness := (true, "a9d09e2438febb46cb7461e74278caebe705ac8a921222d69f4e7f4d0cc18f36"), looks := false }, kinds := [], alts := [], laidByText := true, laidKinds := [.data, .data], laidTests := true, laidLooks := .later }
def FramesReadsCardSaid : Prop := Claim7.holds Tryz.pinned (.plain (OpenSpec.ofChange framesReadsSpec)) framesReadsCard

/-- THE SECOND FORM's CARD OF 'murmurationlaw25.FramesForms'. -/
def framesFormsUptoCard : Claim7 := { stood := { row := framesFormsUptoRow, standIns := [], harness := (true, "a9d09e2438febb46cb7461e74278caebe705ac8a921222d69f4e7f4d0cc18f36"), looks := false }, kinds := [], alts := [], laidByText := true, laidKinds := [.data, .data], laidTests := true, laidLooks := .later }
def FramesFormsUptoCardSaid : Prop := Claim7.holds Tryz.pinned (.plain (OpenSpec.upto framesFormsSpec)) framesFormsUptoCard

/-- THE SECOND FORM's CARD OF 'murmurationlaw25.FramesReads'. -/
def framesReadsUptoCard : Claim7 := { stood := { row := framesReadsUptoRow, standIns := [], harness := (true, "a9d09e2438febb46cb7461e74278caebe705ac8a921222d69f4e7f4d0cc18f36"), looks := false }, kinds := [], alts := [], laidByText := true, laidKinds := [.data, .data], laidTests := true, laidLooks := .later }
def FramesReadsUptoCardSaid : Prop := Claim7.holds Tryz.pinned (.plain (OpenSpec.upto framesReadsSpec)) framesReadsUptoCard
end Rows
end Go.Proofs.YtgbadghjnpbiaaaGreatDoor
