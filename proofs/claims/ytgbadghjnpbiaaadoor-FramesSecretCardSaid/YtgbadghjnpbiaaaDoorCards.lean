/-
  DERIVED. GIVEN WITH THE SEED: THE CARDS: each row of YtgbadghjnpbiaaaDoorRows.lean that lists a variable, with what it lists TIED to the program's text (the seventh form; the later family's looks); each row that meets fmt, with fmt's text TOLD by the authors' own Lean function (tested against real Go, not proved from fmt's source: count such statements apart). THE CARD IS WHAT COUNTS. Prove the row's statement (the work); the ties are given (YtgbadghjnpbiaaaDoorTie.lean); close each card by the builder's one call (the guide's Derived/Test/ToyasCard.lean, 'card_holds'). Laid BY PROGRAM, IN A SANDBOX (cutbox-door.mjs). By AI agents, Wed Nov 11 2026. No macro, syntax, notation, axiom, sorry.
-/
import Derived.Test.YtgbadghjnpbiaaaDoorRows
import GoSem.ClaimSeven
namespace Go.Proofs.YtgbadghjnpbiaaaDoor
namespace Rows

/-- THE TIED CARD OF 'murmurationlaw25.FramesOnly'. -/
def framesOnlyCard : Claim7 := { stood := { row := framesOnlyRow, standIns := [], harness := (true, "38856981e468c7e67355f869c79ca0f6b0f8df92915bbd5b7581328eb2bd3b10"), looks := false }, kinds := [], alts := [], laidByText := true, laidKinds := [.data, .data], laidTests := true, laidLooks := .later }
def FramesOnlyCardSaid : Prop := Claim7.holds Tryd.pinned (.plain (OpenSpec.ofChange framesOnlySpec)) framesOnlyCard

/-- THE TIED CARD OF 'murmurationlaw25.FramesSecret'. -/
def framesSecretCard : Claim7 := { stood := { row := framesSecretRow, standIns := [], harness := (true, "38856981e468c7e67355f869c79ca0f6b0f8df92915bbd5b7581328eb2bd3b10"), looks := false }, kinds := [], alts := [], laidByText := true, laidKinds := [.data, .data], laidTests := true, laidLooks := .later }
def FramesSecretCardSaid : Prop := Claim7.holds Tryd.pinned (.plain (OpenSpec.ofChange framesSecretSpec)) framesSecretCard

/-- THE TIED CARD OF 'murmurationlaw25.FramesApart'. -/
def framesApartCard : Claim7 := { stood := { row := framesApartRow, standIns := [], harness := (true, "38856981e468c7e67355f869c79ca0f6b0f8df92915bbd5b7581328eb2bd3b10"), looks := false }, kinds := [], alts := [], laidByText := true, laidKinds := [.data, .data], laidTests := true, laidLooks := .later }
def FramesApartCardSaid : Prop := Claim7.holds Tryd.pinned (.plain (OpenSpec.ofChange framesApartSpec)) framesApartCard

/-- THE SECOND FORM's CARD OF 'murmurationlaw25.FramesOnly'. -/
def framesOnlyUptoCard : Claim7 := { stood := { row := framesOnlyUptoRow, standIns := [], harness := (true, "38856981e468c7e67355f869c79ca0f6b0f8df92915bbd5b7581328eb2bd3b10"), looks := false }, kinds := [], alts := [], laidByText := true, laidKinds := [.data, .data], laidTests := true, laidLooks := .later }
def FramesOnlyUptoCardSaid : Prop := Claim7.holds Tryd.pinned (.plain (OpenSpec.upto framesOnlySpec)) framesOnlyUptoCard

/-- THE SECOND FORM's CARD OF 'murmurationlaw25.FramesSecret'. -/
def framesSecretUptoCard : Claim7 := { stood := { row := framesSecretUptoRow, standIns := [], harness := (true, "38856981e468c7e67355f869c79ca0f6b0f8df92915bbd5b7581328eb2bd3b10"), looks := false }, kinds := [], alts := [], laidByText := true, laidKinds := [.data, .data], laidTests := true, laidLooks := .later }
def FramesSecretUptoCardSaid : Prop := Claim7.holds Tryd.pinned (.plain (OpenSpec.upto framesSecretSpec)) framesSecretUptoCard

/-- THE SECOND FORM's CARD OF 'murmurationlaw25.FramesApart'. -/
def framesApartUptoCard : Claim7 := { stood := { row := framesApartUptoRow, standIns := [], harness := (true, "38856981e468c7e67355f869c79ca0f6b0f8df92915bbd5b7581328eb2bd3b10"), looks := false }, kinds := [], alts := [], laidByText := true, laidKinds := [.data, .data], laidTests := true, laidLooks := .later }
def FramesApartUptoCardSaid : Prop := Claim7.holds Tryd.pinned (.plain (OpenSpec.upto framesApartSpec)) framesApartUptoCard
end Rows
end Go.Proofs.YtgbadghjnpbiaaaDoor
