/-
  DERIVED. GIVEN WITH THE SEED: THE CARDS: each row of YtljfjjofhclhiaaDoorRows.lean that lists a variable, with what it lists TIED to the program's text (the seventh form; the later family's looks); each row that meets fmt, with fmt's text TOLD by the authors' own Lean function (tested against real Go, not proved from fmt's source: count such statements apart). THE CARD IS WHAT COUNTS. Prove the row's statement (the work); the ties are given (YtljfjjofhclhiaaDoorTie.lean); close each card by the builder's one call (the guide's Derived/Test/ToyasCard.lean, 'card_holds'). Laid BY PROGRAM, IN A SANDBOX (cutbox-door.mjs). By AI agents, Wed Nov 11 2026. No macro, syntax, notation, axiom, sorry.
-/
import Derived.Test.YtljfjjofhclhiaaDoorRows
import GoSem.ClaimSeven
namespace Go.Proofs.YtljfjjofhclhiaaDoor
namespace Rows

/-- THE TIED CARD OF 'murmurationlaw02.HmacTags'. -/
def hmacTagsCard : Claim7 := { stood := { row := hmacTagsRow, standIns := [], harness := (true, "42b0aa53770ee0aea45daea3941dab58e8cf453a232692226d7f4a0034157b0c"), looks := false }, kinds := [], alts := [], laidByText := true, laidKinds := [.data, .data], laidTests := true, laidLooks := .later }
def HmacTagsCardSaid : Prop := Claim7.holds Tryd.pinned (.plain (OpenSpec.ofChange hmacTagsSpec)) hmacTagsCard

/-- THE TIED CARD OF 'murmurationlaw02.HmacParts'. -/
def hmacPartsCard : Claim7 := { stood := { row := hmacPartsRow, standIns := [], harness := (true, "42b0aa53770ee0aea45daea3941dab58e8cf453a232692226d7f4a0034157b0c"), looks := false }, kinds := [], alts := [], laidByText := true, laidKinds := [.data, .data], laidTests := true, laidLooks := .later }
def HmacPartsCardSaid : Prop := Claim7.holds Tryd.pinned (.plain (OpenSpec.ofChange hmacPartsSpec)) hmacPartsCard

/-- THE TIED CARD OF 'murmurationlaw02.HmacSame'. -/
def hmacSameCard : Claim7 := { stood := { row := hmacSameRow, standIns := [], harness := (true, "42b0aa53770ee0aea45daea3941dab58e8cf453a232692226d7f4a0034157b0c"), looks := false }, kinds := [], alts := [], laidByText := true, laidKinds := [.data, .data], laidTests := true, laidLooks := .later }
def HmacSameCardSaid : Prop := Claim7.holds Tryd.pinned (.plain (OpenSpec.ofChange hmacSameSpec)) hmacSameCard

/-- THE TIED CARD OF 'murmurationlaw09.AttestMakes'. -/
def attestMakesCard : Claim7 := { stood := { row := attestMakesRow, standIns := [], harness := (true, "42b0aa53770ee0aea45daea3941dab58e8cf453a232692226d7f4a0034157b0c"), looks := false }, kinds := [], alts := [], laidByText := true, laidKinds := [.data, .data], laidTests := true, laidLooks := .later }
def AttestMakesCardSaid : Prop := Claim7.holds Tryd.pinned (.plain (OpenSpec.ofChange attestMakesSpec)) attestMakesCard

/-- THE TIED CARD OF 'murmurationlaw09.AttestRight'. -/
def attestRightCard : Claim7 := { stood := { row := attestRightRow, standIns := [], harness := (true, "42b0aa53770ee0aea45daea3941dab58e8cf453a232692226d7f4a0034157b0c"), looks := false }, kinds := [], alts := [], laidByText := true, laidKinds := [.data, .data], laidTests := true, laidLooks := .later }
def AttestRightCardSaid : Prop := Claim7.holds Tryd.pinned (.plain (OpenSpec.ofChange attestRightSpec)) attestRightCard

/-- THE TIED CARD OF 'murmurationlaw09.AttestOnly'. -/
def attestOnlyCard : Claim7 := { stood := { row := attestOnlyRow, standIns := [], harness := (true, "42b0aa53770ee0aea45daea3941dab58e8cf453a232692226d7f4a0034157b0c"), looks := false }, kinds := [], alts := [], laidByText := true, laidKinds := [.data, .data], laidTests := true, laidLooks := .later }
def AttestOnlyCardSaid : Prop := Claim7.holds Tryd.pinned (.plain (OpenSpec.ofChange attestOnlySpec)) attestOnlyCard

/-- THE TIED CARD OF 'murmurationlaw09.AttestSecrets'. -/
def attestSecretsCard : Claim7 := { stood := { row := attestSecretsRow, standIns := [], harness := (true, "42b0aa53770ee0aea45daea3941dab58e8cf453a232692226d7f4a0034157b0c"), looks := false }, kinds := [], alts := [], laidByText := true, laidKinds := [.data, .data], laidTests := true, laidLooks := .later }
def AttestSecretsCardSaid : Prop := Claim7.holds Tryd.pinned (.plain (OpenSpec.ofChange attestSecretsSpec)) attestSecretsCard

/-- THE TIED CARD OF 'murmurationlaw09.AttestOrder'. -/
def attestOrderCard : Claim7 := { stood := { row := attestOrderRow, standIns := [], harness := (true, "42b0aa53770ee0aea45daea3941dab58e8cf453a232692226d7f4a0034157b0c"), looks := false }, kinds := [], alts := [], laidByText := true, laidKinds := [.data, .data], laidTests := true, laidLooks := .later }
def AttestOrderCardSaid : Prop := Claim7.holds Tryd.pinned (.plain (OpenSpec.ofChange attestOrderSpec)) attestOrderCard

/-- THE TIED CARD OF 'murmurationlaw09.AttestBytes'. -/
def attestBytesCard : Claim7 := { stood := { row := attestBytesRow, standIns := [], harness := (true, "42b0aa53770ee0aea45daea3941dab58e8cf453a232692226d7f4a0034157b0c"), looks := false }, kinds := [], alts := [], laidByText := true, laidKinds := [.data, .data], laidTests := true, laidLooks := .later }
def AttestBytesCardSaid : Prop := Claim7.holds Tryd.pinned (.plain (OpenSpec.ofChange attestBytesSpec)) attestBytesCard

/-- THE SECOND FORM's CARD OF 'murmurationlaw02.HmacTags'. -/
def hmacTagsUptoCard : Claim7 := { stood := { row := hmacTagsUptoRow, standIns := [], harness := (true, "42b0aa53770ee0aea45daea3941dab58e8cf453a232692226d7f4a0034157b0c"), looks := false }, kinds := [], alts := [], laidByText := true, laidKinds := [.data, .data], laidTests := true, laidLooks := .later }
def HmacTagsUptoCardSaid : Prop := Claim7.holds Tryd.pinned (.plain (OpenSpec.upto hmacTagsSpec)) hmacTagsUptoCard

/-- THE SECOND FORM's CARD OF 'murmurationlaw02.HmacParts'. -/
def hmacPartsUptoCard : Claim7 := { stood := { row := hmacPartsUptoRow, standIns := [], harness := (true, "42b0aa53770ee0aea45daea3941dab58e8cf453a232692226d7f4a0034157b0c"), looks := false }, kinds := [], alts := [], laidByText := true, laidKinds := [.data, .data], laidTests := true, laidLooks := .later }
def HmacPartsUptoCardSaid : Prop := Claim7.holds Tryd.pinned (.plain (OpenSpec.upto hmacPartsSpec)) hmacPartsUptoCard

/-- THE SECOND FORM's CARD OF 'murmurationlaw02.HmacSame'. -/
def hmacSameUptoCard : Claim7 := { stood := { row := hmacSameUptoRow, standIns := [], harness := (true, "42b0aa53770ee0aea45daea3941dab58e8cf453a232692226d7f4a0034157b0c"), looks := false }, kinds := [], alts := [], laidByText := true, laidKinds := [.data, .data], laidTests := true, laidLooks := .later }
def HmacSameUptoCardSaid : Prop := Claim7.holds Tryd.pinned (.plain (OpenSpec.upto hmacSameSpec)) hmacSameUptoCard

/-- THE SECOND FORM's CARD OF 'murmurationlaw09.AttestMakes'. -/
def attestMakesUptoCard : Claim7 := { stood := { row := attestMakesUptoRow, standIns := [], harness := (true, "42b0aa53770ee0aea45daea3941dab58e8cf453a232692226d7f4a0034157b0c"), looks := false }, kinds := [], alts := [], laidByText := true, laidKinds := [.data, .data], laidTests := true, laidLooks := .later }
def AttestMakesUptoCardSaid : Prop := Claim7.holds Tryd.pinned (.plain (OpenSpec.upto attestMakesSpec)) attestMakesUptoCard

/-- THE SECOND FORM's CARD OF 'murmurationlaw09.AttestRight'. -/
def attestRightUptoCard : Claim7 := { stood := { row := attestRightUptoRow, standIns := [], harness := (true, "42b0aa53770ee0aea45daea3941dab58e8cf453a232692226d7f4a0034157b0c"), looks := false }, kinds := [], alts := [], laidByText := true, laidKinds := [.data, .data], laidTests := true, laidLooks := .later }
def AttestRightUptoCardSaid : Prop := Claim7.holds Tryd.pinned (.plain (OpenSpec.upto attestRightSpec)) attestRightUptoCard

/-- THE SECOND FORM's CARD OF 'murmurationlaw09.AttestOnly'. -/
def attestOnlyUptoCard : Claim7 := { stood := { row := attestOnlyUptoRow, standIns := [], harness := (true, "42b0aa53770ee0aea45daea3941dab58e8cf453a232692226d7f4a0034157b0c"), looks := false }, kinds := [], alts := [], laidByText := true, laidKinds := [.data, .data], laidTests := true, laidLooks := .later }
def AttestOnlyUptoCardSaid : Prop := Claim7.holds Tryd.pinned (.plain (OpenSpec.upto attestOnlySpec)) attestOnlyUptoCard

/-- THE SECOND FORM's CARD OF 'murmurationlaw09.AttestSecrets'. -/
def attestSecretsUptoCard : Claim7 := { stood := { row := attestSecretsUptoRow, standIns := [], harness := (true, "42b0aa53770ee0aea45daea3941dab58e8cf453a232692226d7f4a0034157b0c"), looks := false }, kinds := [], alts := [], laidByText := true, laidKinds := [.data, .data], laidTests := true, laidLooks := .later }
def AttestSecretsUptoCardSaid : Prop := Claim7.holds Tryd.pinned (.plain (OpenSpec.upto attestSecretsSpec)) attestSecretsUptoCard

/-- THE SECOND FORM's CARD OF 'murmurationlaw09.AttestOrder'. -/
def attestOrderUptoCard : Claim7 := { stood := { row := attestOrderUptoRow, standIns := [], harness := (true, "42b0aa53770ee0aea45daea3941dab58e8cf453a232692226d7f4a0034157b0c"), looks := false }, kinds := [], alts := [], laidByText := true, laidKinds := [.data, .data], laidTests := true, laidLooks := .later }
def AttestOrderUptoCardSaid : Prop := Claim7.holds Tryd.pinned (.plain (OpenSpec.upto attestOrderSpec)) attestOrderUptoCard

/-- THE SECOND FORM's CARD OF 'murmurationlaw09.AttestBytes'. -/
def attestBytesUptoCard : Claim7 := { stood := { row := attestBytesUptoRow, standIns := [], harness := (true, "42b0aa53770ee0aea45daea3941dab58e8cf453a232692226d7f4a0034157b0c"), looks := false }, kinds := [], alts := [], laidByText := true, laidKinds := [.data, .data], laidTests := true, laidLooks := .later }
def AttestBytesUptoCardSaid : Prop := Claim7.holds Tryd.pinned (.plain (OpenSpec.upto attestBytesSpec)) attestBytesUptoCard
end Rows
end Go.Proofs.YtljfjjofhclhiaaDoor
