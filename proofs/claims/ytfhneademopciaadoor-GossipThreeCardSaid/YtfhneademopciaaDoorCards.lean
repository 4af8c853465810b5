/-
  DERIVED. GIVEN WITH THE SEED: THE CARDS: each row of YtfhneademopciaaDoorRows.lean that lists a variable, with what it lists TIED to the program's text (the seventh form; the later family's looks); each row that meets fmt, with fmt's text TOLD by the authors' own Lean function (tested against real Go, not proved from fmt's source: count such statements apart). THE CARD IS WHAT COUNTS. Prove the row's statement (the work); the ties are given (YtfhneademopciaaDoorTie.lean); close each card by the builder's one call (the guide's Derived/Test/ToyasCard.lean, 'card_holds'). Laid BY PROGRAM, IN A SANDBOX (cutbox-door.mjs). By AI agents, Wed Nov 11 2026. No macro, syntax, notation, axiom, sorry.
-/
import Derived.Test.YtfhneademopciaaDoorRows
import GoSem.ClaimSeven
namespace Go.Proofs.YtfhneademopciaaDoor
namespace Rows

/-- THE TIED CARD OF 'murmurationlaw20.AdvertsOrder'. -/
def advertsOrderCard : Claim7 := { stood := { row := advertsOrderRow, standIns := [], harness := (true, "464b3f01ec552f6c6fd422197440eda64f520aebcbe8fbc1b7739edd19e42e1d"), looks := false }, kinds := [], alts := [], laidByText := true, laidKinds := [.data, .data], laidTests := true, laidLooks := .later }
def AdvertsOrderCardSaid : Prop := Claim7.holds Tryd.pinned (.plain (OpenSpec.ofChange advertsOrderSpec)) advertsOrderCard

/-- THE TIED CARD OF 'murmurationlaw20.AdvertsParts'. -/
def advertsPartsCard : Claim7 := { stood := { row := advertsPartsRow, standIns := [], harness := (true, "464b3f01ec552f6c6fd422197440eda64f520aebcbe8fbc1b7739edd19e42e1d"), looks := false }, kinds := [], alts := [], laidByText := true, laidKinds := [.data, .data], laidTests := true, laidLooks := .later }
def AdvertsPartsCardSaid : Prop := Claim7.holds Tryd.pinned (.plain (OpenSpec.ofChange advertsPartsSpec)) advertsPartsCard

/-- THE TIED CARD OF 'murmurationlaw20.AdvertsSums'. -/
def advertsSumsCard : Claim7 := { stood := { row := advertsSumsRow, standIns := [], harness := (true, "464b3f01ec552f6c6fd422197440eda64f520aebcbe8fbc1b7739edd19e42e1d"), looks := false }, kinds := [], alts := [], laidByText := true, laidKinds := [.data, .data], laidTests := true, laidLooks := .later }
def AdvertsSumsCardSaid : Prop := Claim7.holds Tryd.pinned (.plain (OpenSpec.ofChange advertsSumsSpec)) advertsSumsCard

/-- THE TIED CARD OF 'murmurationlaw20.AdvertsMost'. -/
def advertsMostCard : Claim7 := { stood := { row := advertsMostRow, standIns := [], harness := (true, "464b3f01ec552f6c6fd422197440eda64f520aebcbe8fbc1b7739edd19e42e1d"), looks := false }, kinds := [], alts := [], laidByText := true, laidKinds := [.data, .data], laidTests := true, laidLooks := .later }
def AdvertsMostCardSaid : Prop := Claim7.holds Tryd.pinned (.plain (OpenSpec.ofChange advertsMostSpec)) advertsMostCard

/-- THE TIED CARD OF 'murmurationlaw20.AdvertsPlays'. -/
def advertsPlaysCard : Claim7 := { stood := { row := advertsPlaysRow, standIns := [], harness := (true, "464b3f01ec552f6c6fd422197440eda64f520aebcbe8fbc1b7739edd19e42e1d"), looks := false }, kinds := [], alts := [], laidByText := true, laidKinds := [.data, .data], laidTests := true, laidLooks := .later }
def AdvertsPlaysCardSaid : Prop := Claim7.holds Tryd.pinned (.plain (OpenSpec.ofChange advertsPlaysSpec)) advertsPlaysCard

/-- THE TIED CARD OF 'murmurationlaw20.AdvertsNone'. -/
def advertsNoneCard : Claim7 := { stood := { row := advertsNoneRow, standIns := [], harness := (true, "464b3f01ec552f6c6fd422197440eda64f520aebcbe8fbc1b7739edd19e42e1d"), looks := false }, kinds := [], alts := [], laidByText := true, laidKinds := [.data, .data], laidTests := true, laidLooks := .later }
def AdvertsNoneCardSaid : Prop := Claim7.holds Tryd.pinned (.plain (OpenSpec.ofChange advertsNoneSpec)) advertsNoneCard

/-- THE TIED CARD OF 'murmurationlaw21.GossipMeets'. -/
def gossipMeetsCard : Claim7 := { stood := { row := gossipMeetsRow, standIns := [], harness := (true, "464b3f01ec552f6c6fd422197440eda64f520aebcbe8fbc1b7739edd19e42e1d"), looks := false }, kinds := [], alts := [], laidByText := true, laidKinds := [.data, .data], laidTests := true, laidLooks := .later }
def GossipMeetsCardSaid : Prop := Claim7.holds Tryd.pinned (.plain (OpenSpec.ofChange gossipMeetsSpec)) gossipMeetsCard

/-- THE TIED CARD OF 'murmurationlaw21.GossipQuiet'. -/
def gossipQuietCard : Claim7 := { stood := { row := gossipQuietRow, standIns := [], harness := (true, "464b3f01ec552f6c6fd422197440eda64f520aebcbe8fbc1b7739edd19e42e1d"), looks := false }, kinds := [], alts := [], laidByText := true, laidKinds := [.data, .data], laidTests := true, laidLooks := .later }
def GossipQuietCardSaid : Prop := Claim7.holds Tryd.pinned (.plain (OpenSpec.ofChange gossipQuietSpec)) gossipQuietCard

/-- THE TIED CARD OF 'murmurationlaw21.GossipLearns'. -/
def gossipLearnsCard : Claim7 := { stood := { row := gossipLearnsRow, standIns := [], harness := (true, "464b3f01ec552f6c6fd422197440eda64f520aebcbe8fbc1b7739edd19e42e1d"), looks := false }, kinds := [], alts := [], laidByText := true, laidKinds := [.data, .data], laidTests := true, laidLooks := .later }
def GossipLearnsCardSaid : Prop := Claim7.holds Tryd.pinned (.plain (OpenSpec.ofChange gossipLearnsSpec)) gossipLearnsCard

/-- THE TIED CARD OF 'murmurationlaw21.GossipThree'. -/
def gossipThreeCard : Claim7 := { stood := { row := gossipThreeRow, standIns := [], harness := (true, "464b3f01ec552f6c6fd422197440eda64f520aebcbe8fbc1b7739edd19e42e1d"), looks := false }, kinds := [], alts := [], laidByText := true, laidKinds := [.data, .data], laidTests := true, laidLooks := .later }
def GossipThreeCardSaid : Prop := Claim7.holds Tryd.pinned (.plain (OpenSpec.ofChange gossipThreeSpec)) gossipThreeCard

/-- THE SECOND FORM's CARD OF 'murmurationlaw20.AdvertsOrder'. -/
def advertsOrderUptoCard : Claim7 := { stood := { row := advertsOrderUptoRow, standIns := [], harness := (true, "464b3f01ec552f6c6fd422197440eda64f520aebcbe8fbc1b7739edd19e42e1d"), looks := false }, kinds := [], alts := [], laidByText := true, laidKinds := [.data, .data], laidTests := true, laidLooks := .later }
def AdvertsOrderUptoCardSaid : Prop := Claim7.holds Tryd.pinned (.plain (OpenSpec.upto advertsOrderSpec)) advertsOrderUptoCard

/-- THE SECOND FORM's CARD OF 'murmurationlaw20.AdvertsParts'. -/
def advertsPartsUptoCard : Claim7 := { stood := { row := advertsPartsUptoRow, standIns := [], harness := (true, "464b3f01ec552f6c6fd422197440eda64f520aebcbe8fbc1b7739edd19e42e1d"), looks := false }, kinds := [], alts := [], laidByText := true, laidKinds := [.data, .data], laidTests := true, laidLooks := .later }
def AdvertsPartsUptoCardSaid : Prop := Claim7.holds Tryd.pinned (.plain (OpenSpec.upto advertsPartsSpec)) advertsPartsUptoCard

/-- THE SECOND FORM's CARD OF 'murmurationlaw20.AdvertsSums'. -/
def advertsSumsUptoCard : Claim7 := { stood := { row := advertsSumsUptoRow, standIns := [], harness := (true, "464b3f01ec552f6c6fd422197440eda64f520aebcbe8fbc1b7739edd19e42e1d"), looks := false }, kinds := [], alts := [], laidByText := true, laidKinds := [.data, .data], laidTests := true, laidLooks := .later }
def AdvertsSumsUptoCardSaid : Prop := Claim7.holds Tryd.pinned (.plain (OpenSpec.upto advertsSumsSpec)) advertsSumsUptoCard

/-- THE SECOND FORM's CARD OF 'murmurationlaw20.AdvertsMost'. -/
def advertsMostUptoCard : Claim7 := { stood := { row := advertsMostUptoRow, standIns := [], harness := (true, "464b3f01ec552f6c6fd422197440eda64f520aebcbe8fbc1b7739edd19e42e1d"), looks := false }, kinds := [], alts := [], laidByText := true, laidKinds := [.data, .data], laidTests := true, laidLooks := .later }
def AdvertsMostUptoCardSaid : Prop := Claim7.holds Tryd.pinned (.plain (OpenSpec.upto advertsMostSpec)) advertsMostUptoCard

/-- THE SECOND FORM's CARD OF 'murmurationlaw20.AdvertsPlays'. -/
def advertsPlaysUptoCard : Claim7 := { stood := { row := advertsPlaysUptoRow, standIns := [], harness := (true, "464b3f01ec552f6c6fd422197440eda64f520aebcbe8fbc1b7739edd19e42e1d"), looks := false }, kinds := [], alts := [], laidByText := true, laidKinds := [.data, .data], laidTests := true, laidLooks := .later }
def AdvertsPlaysUptoCardSaid : Prop := Claim7.holds Tryd.pinned (.plain (OpenSpec.upto advertsPlaysSpec)) advertsPlaysUptoCard

/-- THE SECOND FORM's CARD OF 'murmurationlaw20.AdvertsNone'. -/
def advertsNoneUptoCard : Claim7 := { stood := { row := advertsNoneUptoRow, standIns := [], harness := (true, "464b3f01ec552f6c6fd422197440eda64f520aebcbe8fbc1b7739edd19e42e1d"), looks := false }, kinds := [], alts := [], laidByText := true, laidKinds := [.data, .data], laidTests := true, laidLooks := .later }
def AdvertsNoneUptoCardSaid : Prop := Claim7.holds Tryd.pinned (.plain (OpenSpec.upto advertsNoneSpec)) advertsNoneUptoCard

/-- THE SECOND FORM's CARD OF 'murmurationlaw21.GossipMeets'. -/
def gossipMeetsUptoCard : Claim7 := { stood := { row := gossipMeetsUptoRow, standIns := [], harness := (true, "464b3f01ec552f6c6fd422197440eda64f520aebcbe8fbc1b7739edd19e42e1d"), looks := false }, kinds := [], alts := [], laidByText := true, laidKinds := [.data, .data], laidTests := true, laidLooks := .later }
def GossipMeetsUptoCardSaid : Prop := Claim7.holds Tryd.pinned (.plain (OpenSpec.upto gossipMeetsSpec)) gossipMeetsUptoCard

/-- THE SECOND FORM's CARD OF 'murmurationlaw21.GossipQuiet'. -/
def gossipQuietUptoCard : Claim7 := { stood := { row := gossipQuietUptoRow, standIns := [], harness := (true, "464b3f01ec552f6c6fd422197440eda64f520aebcbe8fbc1b7739edd19e42e1d"), looks := false }, kinds := [], alts := [], laidByText := true, laidKinds := [.data, .data], laidTests := true, laidLooks := .later }
def GossipQuietUptoCardSaid : Prop := Claim7.holds Tryd.pinned (.plain (OpenSpec.upto gossipQuietSpec)) gossipQuietUptoCard

/-- THE SECOND FORM's CARD OF 'murmurationlaw21.GossipLearns'. -/
def gossipLearnsUptoCard : Claim7 := { stood := { row := gossipLearnsUptoRow, standIns := [], harness := (true, "464b3f01ec552f6c6fd422197440eda64f520aebcbe8fbc1b7739edd19e42e1d"), looks := false }, kinds := [], alts := [], laidByText := true, laidKinds := [.data, .data], laidTests := true, laidLooks := .later }
def GossipLearnsUptoCardSaid : Prop := Claim7.holds Tryd.pinned (.plain (OpenSpec.upto gossipLearnsSpec)) gossipLearnsUptoCard

/-- THE SECOND FORM's CARD OF 'murmurationlaw21.GossipThree'. -/
def gossipThreeUptoCard : Claim7 := { stood := { row := gossipThreeUptoRow, standIns := [], harness := (true, "464b3f01ec552f6c6fd422197440eda64f520aebcbe8fbc1b7739edd19e42e1d"), looks := false }, kinds := [], alts := [], laidByText := true, laidKinds := [.data, .data], laidTests := true, laidLooks := .later }
def GossipThreeUptoCardSaid : Prop := Claim7.holds Tryd.pinned (.plain (OpenSpec.upto gossipThreeSpec)) gossipThreeUptoCard
end Rows
end Go.Proofs.YtfhneademopciaaDoor
