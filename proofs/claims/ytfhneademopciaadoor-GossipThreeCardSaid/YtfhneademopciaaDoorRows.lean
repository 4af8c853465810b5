/-
  NARROWER THAN 'FOR EVERY INPUT', by the rows' own cells (each row's printed sentence says how): AdvertsOrder: laid · AdvertsParts: laid · AdvertsSums: laid · AdvertsMost: laid · AdvertsPlays: laid · AdvertsNone: laid · GossipMeets: laid · GossipQuiet: laid · GossipLearns: laid · GossipThree: laid.
  DERIVED. THE GIVEN ROWS OF THIS SEAT. 10 by the template 'for every input the law returns true; each argument reads behind the call as it read before'; 0 by the template 'total and deterministic' (their statements: YtfhneademopciaaDoorTotals.lean).
  GIVEN WITH THE SEED: the statements are not yours to turn. If you find one false, say at which input.
  Laid BY PROGRAM, IN A SANDBOX (cutbox-rows.mjs): the forced cells as the released guide's own fill.sh prints them over the translation 18ba484a45e47684… (all of the seat's roots in one cut). By AI agents, Wed Nov 11 2026. No macro, syntax, notation, axiom, sorry.
-/
import Derived.Test.YtfhneademopciaaDoorChecked
import GoSem.Claim
import GoSem.ClaimJoined
import GoSem.ClaimMapViews
import Derived.JoinedTies
import Derived.KernelRfl
namespace Go.Proofs.YtfhneademopciaaDoor
/- THE CELL 'sum', in the pinned program and in every row, IS THE sha256 OF THE DUMP (.gsa) THAT YtfhneademopciaaDoorProg.lean LOADS. Nothing in Lean hashes anything: it is a label: what it is worth is what the hold of that sum in a sandbox is worth. -/
noncomputable def Tryd.pinned : Pinned := { name := "ytfhneademopciaadoor", sum := "18ba484a45e47684ab21379fac7bcecd9b66daebd4545ac6b7e563e1698872c5", checked := Tryd.checked }
namespace Rows
def none {H : Type} : Left H := { results := [], args := [] }

/- WHAT THE LISTED PACKAGE-LEVEL VARIABLES READ AS WHEN THE CALL BEGINS. Each datum BY PROGRAM (the guide's laid-datum.mjs) off the statement by which the dump's own 'gosem.cut.vars' lays the variable. In a bare row this is a premise. The card (YtfhneademopciaaDoorCards.lean) ties it to the program's text. -/
def laid_murmuration_sha_k {H : Type} : DataW H := .agg [.lit (.int .u32 1116352408), .lit (.int .u32 1899447441), .lit (.int .u32 3049323471), .lit (.int .u32 3921009573), .lit (.int .u32 961987163), .lit (.int .u32 1508970993), .lit (.int .u32 2453635748), .lit (.int .u32 2870763221), .lit (.int .u32 3624381080), .lit (.int .u32 310598401), .lit (.int .u32 607225278), .lit (.int .u32 1426881987), .lit (.int .u32 1925078388), .lit (.int .u32 2162078206), .lit (.int .u32 2614888103), .lit (.int .u32 3248222580), .lit (.int .u32 3835390401), .lit (.int .u32 4022224774), .lit (.int .u32 264347078), .lit (.int .u32 604807628), .lit (.int .u32 770255983), .lit (.int .u32 1249150122), .lit (.int .u32 1555081692), .lit (.int .u32 1996064986), .lit (.int .u32 2554220882), .lit (.int .u32 2821834349), .lit (.int .u32 2952996808), .lit (.int .u32 3210313671), .lit (.int .u32 3336571891), .lit (.int .u32 3584528711), .lit (.int .u32 113926993), .lit (.int .u32 338241895), .lit (.int .u32 666307205), .lit (.int .u32 773529912), .lit (.int .u32 1294757372), .lit (.int .u32 1396182291), .lit (.int .u32 1695183700), .lit (.int .u32 1986661051), .lit (.int .u32 2177026350), .lit (.int .u32 2456956037), .lit (.int .u32 2730485921), .lit (.int .u32 2820302411), .lit (.int .u32 3259730800), .lit (.int .u32 3345764771), .lit (.int .u32 3516065817), .lit (.int .u32 3600352804), .lit (.int .u32 4094571909), .lit (.int .u32 275423344), .lit (.int .u32 430227734), .lit (.int .u32 506948616), .lit (.int .u32 659060556), .lit (.int .u32 883997877), .lit (.int .u32 958139571), .lit (.int .u32 1322822218), .lit (.int .u32 1537002063), .lit (.int .u32 1747873779), .lit (.int .u32 1955562222), .lit (.int .u32 2024104815), .lit (.int .u32 2227730452), .lit (.int .u32 2361852424), .lit (.int .u32 2428436474), .lit (.int .u32 2756734187), .lit (.int .u32 3204031479), .lit (.int .u32 3329325298)]
def laid_murmuration_sha_first {H : Type} : DataW H := .agg [.lit (.int .u32 1779033703), .lit (.int .u32 3144134277), .lit (.int .u32 1013904242), .lit (.int .u32 2773480762), .lit (.int .u32 1359893119), .lit (.int .u32 2600822924), .lit (.int .u32 528734635), .lit (.int .u32 1541459225)]

/-- 'murmurationlaw20.AdvertsOrder': WHATEVER THE INPUT: true; the input reads as it did. -/
def advertsOrderSpec : ChangeSpec := { name := "advertsOrder", fn := fun _ => fun
  | [d1, d2] => { results := [.lit (.bool true)], args := [d1, d2] }
  | _ => none }
def advertsOrderRow : OpenClaim := { program := "ytfhneademopciaadoor", sum := "18ba484a45e47684ab21379fac7bcecd9b66daebd4545ac6b7e563e1698872c5", func := "murmuration/murmurationlaw20.AdvertsOrder", spec := "advertsOrder", inPlace := ["internal/bytealg.MakeNoZero", "internal/bytealg.Compare", "slices.overlaps[murmuration/api.Attest]"], unfollowed := true, recurses := true, named := ["murmuration/sha.first", "murmuration/sha.k"], apart := false, laid := [("murmuration/sha.k", laid_murmuration_sha_k), ("murmuration/sha.first", laid_murmuration_sha_first)] }
def AdvertsOrderSaid : Prop := advertsOrderRow.holds Tryd.pinned (OpenSpec.ofChange advertsOrderSpec)

/-- ITS FALSE NEIGHBOUR: 'it returns false'. Refute it at one input. -/
def advertsOrderWrong : ChangeSpec := { name := "advertsOrder", fn := fun _ => fun
  | [d1, d2] => { results := [.lit (.bool false)], args := [d1, d2] }
  | _ => none }
def AdvertsOrderWrongFalsely : Prop := advertsOrderRow.holds Tryd.pinned (OpenSpec.ofChange advertsOrderWrong)

/-- 'murmurationlaw20.AdvertsParts': WHATEVER THE INPUT: true; the input reads as it did. -/
def advertsPartsSpec : ChangeSpec := { name := "advertsParts", fn := fun _ => fun
  | [d1, d2] => { results := [.lit (.bool true)], args := [d1, d2] }
  | _ => none }
def advertsPartsRow : OpenClaim := { program := "ytfhneademopciaadoor", sum := "18ba484a45e47684ab21379fac7bcecd9b66daebd4545ac6b7e563e1698872c5", func := "murmuration/murmurationlaw20.AdvertsParts", spec := "advertsParts", inPlace := ["internal/bytealg.MakeNoZero", "internal/bytealg.Compare", "slices.overlaps[murmuration/api.Attest]"], unfollowed := true, recurses := true, named := ["murmuration/sha.first", "murmuration/sha.k"], apart := false, laid := [("murmuration/sha.k", laid_murmuration_sha_k), ("murmuration/sha.first", laid_murmuration_sha_first)] }
def AdvertsPartsSaid : Prop := advertsPartsRow.holds Tryd.pinned (OpenSpec.ofChange advertsPartsSpec)

/-- ITS FALSE NEIGHBOUR: 'it returns false'. Refute it at one input. -/
def advertsPartsWrong : ChangeSpec := { name := "advertsParts", fn := fun _ => fun
  | [d1, d2] => { results := [.lit (.bool false)], args := [d1, d2] }
  | _ => none }
def AdvertsPartsWrongFalsely : Prop := advertsPartsRow.holds Tryd.pinned (OpenSpec.ofChange advertsPartsWrong)

/-- 'murmurationlaw20.AdvertsSums': WHATEVER THE INPUT: true; the input reads as it did. -/
def advertsSumsSpec : ChangeSpec := { name := "advertsSums", fn := fun _ => fun
  | [d1, d2, d3] => { results := [.lit (.bool true)], args := [d1, d2, d3] }
  | _ => none }
def advertsSumsRow : OpenClaim := { program := "ytfhneademopciaadoor", sum := "18ba484a45e47684ab21379fac7bcecd9b66daebd4545ac6b7e563e1698872c5", func := "murmuration/murmurationlaw20.AdvertsSums", spec := "advertsSums", inPlace := ["internal/bytealg.MakeNoZero", "internal/bytealg.Compare", "slices.overlaps[murmuration/api.Attest]"], unfollowed := true, recurses := true, named := ["murmuration/sha.first", "murmuration/sha.k"], apart := false, laid := [("murmuration/sha.k", laid_murmuration_sha_k), ("murmuration/sha.first", laid_murmuration_sha_first)] }
def AdvertsSumsSaid : Prop := advertsSumsRow.holds Tryd.pinned (OpenSpec.ofChange advertsSumsSpec)

/-- ITS FALSE NEIGHBOUR: 'it returns false'. Refute it at one input. -/
def advertsSumsWrong : ChangeSpec := { name := "advertsSums", fn := fun _ => fun
  | [d1, d2, d3] => { results := [.lit (.bool false)], args := [d1, d2, d3] }
  | _ => none }
def AdvertsSumsWrongFalsely : Prop := advertsSumsRow.holds Tryd.pinned (OpenSpec.ofChange advertsSumsWrong)

/-- 'murmurationlaw20.AdvertsMost': WHATEVER THE INPUT: true; the input reads as it did. -/
def advertsMostSpec : ChangeSpec := { name := "advertsMost", fn := fun _ => fun
  | [d] => { results := [.lit (.bool true)], args := [d] }
  | _ => none }
def advertsMostRow : OpenClaim := { program := "ytfhneademopciaadoor", sum := "18ba484a45e47684ab21379fac7bcecd9b66daebd4545ac6b7e563e1698872c5", func := "murmuration/murmurationlaw20.AdvertsMost", spec := "advertsMost", inPlace := ["internal/bytealg.MakeNoZero", "internal/bytealg.Compare", "slices.overlaps[murmuration/api.Attest]"], unfollowed := true, recurses := true, named := ["murmuration/sha.first", "murmuration/sha.k"], apart := false, laid := [("murmuration/sha.k", laid_murmuration_sha_k), ("murmuration/sha.first", laid_murmuration_sha_first)] }
def AdvertsMostSaid : Prop := advertsMostRow.holds Tryd.pinned (OpenSpec.ofChange advertsMostSpec)

/-- ITS FALSE NEIGHBOUR: 'it returns false'. Refute it at one input. -/
def advertsMostWrong : ChangeSpec := { name := "advertsMost", fn := fun _ => fun
  | [d] => { results := [.lit (.bool false)], args := [d] }
  | _ => none }
def AdvertsMostWrongFalsely : Prop := advertsMostRow.holds Tryd.pinned (OpenSpec.ofChange advertsMostWrong)

/-- 'murmurationlaw20.AdvertsPlays': WHATEVER THE INPUT: true; the input reads as it did. -/
def advertsPlaysSpec : ChangeSpec := { name := "advertsPlays", fn := fun _ => fun
  | [d1, d2, d3] => { results := [.lit (.bool true)], args := [d1, d2, d3] }
  | _ => none }
def advertsPlaysRow : OpenClaim := { program := "ytfhneademopciaadoor", sum := "18ba484a45e47684ab21379fac7bcecd9b66daebd4545ac6b7e563e1698872c5", func := "murmuration/murmurationlaw20.AdvertsPlays", spec := "advertsPlays", inPlace := ["internal/bytealg.MakeNoZero", "internal/bytealg.Compare", "slices.overlaps[murmuration/api.Attest]"], unfollowed := true, recurses := true, named := ["murmuration/sha.first", "murmuration/sha.k"], apart := false, laid := [("murmuration/sha.k", laid_murmuration_sha_k), ("murmuration/sha.first", laid_murmuration_sha_first)] }
def AdvertsPlaysSaid : Prop := advertsPlaysRow.holds Tryd.pinned (OpenSpec.ofChange advertsPlaysSpec)

/-- ITS FALSE NEIGHBOUR: 'it returns false'. Refute it at one input. -/
def advertsPlaysWrong : ChangeSpec := { name := "advertsPlays", fn := fun _ => fun
  | [d1, d2, d3] => { results := [.lit (.bool false)], args := [d1, d2, d3] }
  | _ => none }
def AdvertsPlaysWrongFalsely : Prop := advertsPlaysRow.holds Tryd.pinned (OpenSpec.ofChange advertsPlaysWrong)

/-- 'murmurationlaw20.AdvertsNone': WHATEVER THE INPUT: true; the input reads as it did. -/
def advertsNoneSpec : ChangeSpec := { name := "advertsNone", fn := fun _ => fun
  | [d1, d2] => { results := [.lit (.bool true)], args := [d1, d2] }
  | _ => none }
def advertsNoneRow : OpenClaim := { program := "ytfhneademopciaadoor", sum := "18ba484a45e47684ab21379fac7bcecd9b66daebd4545ac6b7e563e1698872c5", func := "murmuration/murmurationlaw20.AdvertsNone", spec := "advertsNone", inPlace := ["internal/bytealg.MakeNoZero", "internal/bytealg.Compare", "slices.overlaps[murmuration/api.Attest]"], unfollowed := true, recurses := true, named := ["murmuration/sha.first", "murmuration/sha.k"], apart := false, laid := [("murmuration/sha.k", laid_murmuration_sha_k), ("murmuration/sha.first", laid_murmuration_sha_first)] }
def AdvertsNoneSaid : Prop := advertsNoneRow.holds Tryd.pinned (OpenSpec.ofChange advertsNoneSpec)

/-- ITS FALSE NEIGHBOUR: 'it returns false'. Refute it at one input. -/
def advertsNoneWrong : ChangeSpec := { name := "advertsNone", fn := fun _ => fun
  | [d1, d2] => { results := [.lit (.bool false)], args := [d1, d2] }
  | _ => none }
def AdvertsNoneWrongFalsely : Prop := advertsNoneRow.holds Tryd.pinned (OpenSpec.ofChange advertsNoneWrong)

/-- 'murmurationlaw21.GossipMeets': WHATEVER THE INPUT: true; the input reads as it did. -/
def gossipMeetsSpec : ChangeSpec := { name := "gossipMeets", fn := fun _ => fun
  | [d1, d2, d3] => { results := [.lit (.bool true)], args := [d1, d2, d3] }
  | _ => none }
def gossipMeetsRow : OpenClaim := { program := "ytfhneademopciaadoor", sum := "18ba484a45e47684ab21379fac7bcecd9b66daebd4545ac6b7e563e1698872c5", func := "murmuration/murmurationlaw21.GossipMeets", spec := "gossipMeets", inPlace := ["internal/bytealg.MakeNoZero", "internal/bytealg.Compare", "slices.overlaps[murmuration/api.Attest]"], unfollowed := true, recurses := true, named := ["murmuration/sha.first", "murmuration/sha.k"], apart := false, laid := [("murmuration/sha.k", laid_murmuration_sha_k), ("murmuration/sha.first", laid_murmuration_sha_first)] }
def GossipMeetsSaid : Prop := gossipMeetsRow.holds Tryd.pinned (OpenSpec.ofChange gossipMeetsSpec)

/-- ITS FALSE NEIGHBOUR: 'it returns false'. Refute it at one input. -/
def gossipMeetsWrong : ChangeSpec := { name := "gossipMeets", fn := fun _ => fun
  | [d1, d2, d3] => { results := [.lit (.bool false)], args := [d1, d2, d3] }
  | _ => none }
def GossipMeetsWrongFalsely : Prop := gossipMeetsRow.holds Tryd.pinned (OpenSpec.ofChange gossipMeetsWrong)

/-- 'murmurationlaw21.GossipQuiet': WHATEVER THE INPUT: true; the input reads as it did. -/
def gossipQuietSpec : ChangeSpec := { name := "gossipQuiet", fn := fun _ => fun
  | [d] => { results := [.lit (.bool true)], args := [d] }
  | _ => none }
def gossipQuietRow : OpenClaim := { program := "ytfhneademopciaadoor", sum := "18ba484a45e47684ab21379fac7bcecd9b66daebd4545ac6b7e563e1698872c5", func := "murmuration/murmurationlaw21.GossipQuiet", spec := "gossipQuiet", inPlace := ["internal/bytealg.MakeNoZero", "internal/bytealg.Compare", "slices.overlaps[murmuration/api.Attest]"], unfollowed := true, recurses := true, named := ["murmuration/sha.first", "murmuration/sha.k"], apart := false, laid := [("murmuration/sha.k", laid_murmuration_sha_k), ("murmuration/sha.first", laid_murmuration_sha_first)] }
def GossipQuietSaid : Prop := gossipQuietRow.holds Tryd.pinned (OpenSpec.ofChange gossipQuietSpec)

/-- ITS FALSE NEIGHBOUR: 'it returns false'. Refute it at one input. -/
def gossipQuietWrong : ChangeSpec := { name := "gossipQuiet", fn := fun _ => fun
  | [d] => { results := [.lit (.bool false)], args := [d] }
  | _ => none }
def GossipQuietWrongFalsely : Prop := gossipQuietRow.holds Tryd.pinned (OpenSpec.ofChange gossipQuietWrong)

/-- 'murmurationlaw21.GossipLearns': WHATEVER THE INPUT: true; the input reads as it did. -/
def gossipLearnsSpec : ChangeSpec := { name := "gossipLearns", fn := fun _ => fun
  | [d1, d2] => { results := [.lit (.bool true)], args := [d1, d2] }
  | _ => none }
def gossipLearnsRow : OpenClaim := { program := "ytfhneademopciaadoor", sum := "18ba484a45e47684ab21379fac7bcecd9b66daebd4545ac6b7e563e1698872c5", func := "murmuration/murmurationlaw21.GossipLearns", spec := "gossipLearns", inPlace := ["internal/bytealg.MakeNoZero", "internal/bytealg.Compare", "slices.overlaps[murmuration/api.Attest]"], unfollowed := true, recurses := true, named := ["murmuration/sha.first", "murmuration/sha.k"], apart := false, laid := [("murmuration/sha.k", laid_murmuration_sha_k), ("murmuration/sha.first", laid_murmuration_sha_first)] }
def GossipLearnsSaid : Prop := gossipLearnsRow.holds Tryd.pinned (OpenSpec.ofChange gossipLearnsSpec)

/-- ITS FALSE NEIGHBOUR: 'it returns false'. Refute it at one input. -/
def gossipLearnsWrong : ChangeSpec := { name := "gossipLearns", fn := fun _ => fun
  | [d1, d2] => { results := [.lit (.bool false)], args := [d1, d2] }
  | _ => none }
def GossipLearnsWrongFalsely : Prop := gossipLearnsRow.holds Tryd.pinned (OpenSpec.ofChange gossipLearnsWrong)

/-- 'murmurationlaw21.GossipThree': WHATEVER THE INPUT: true; the input reads as it did. -/
def gossipThreeSpec : ChangeSpec := { name := "gossipThree", fn := fun _ => fun
  | [d1, d2, d3] => { results := [.lit (.bool true)], args := [d1, d2, d3] }
  | _ => none }
def gossipThreeRow : OpenClaim := { program := "ytfhneademopciaadoor", sum := "18ba484a45e47684ab21379fac7bcecd9b66daebd4545ac6b7e563e1698872c5", func := "murmuration/murmurationlaw21.GossipThree", spec := "gossipThree", inPlace := ["internal/bytealg.MakeNoZero", "internal/bytealg.Compare", "slices.overlaps[murmuration/api.Attest]"], unfollowed := true, recurses := true, named := ["murmuration/sha.first", "murmuration/sha.k"], apart := false, laid := [("murmuration/sha.k", laid_murmuration_sha_k), ("murmuration/sha.first", laid_murmuration_sha_first)] }
def GossipThreeSaid : Prop := gossipThreeRow.holds Tryd.pinned (OpenSpec.ofChange gossipThreeSpec)

/-- ITS FALSE NEIGHBOUR: 'it returns false'. Refute it at one input. -/
def gossipThreeWrong : ChangeSpec := { name := "gossipThree", fn := fun _ => fun
  | [d1, d2, d3] => { results := [.lit (.bool false)], args := [d1, d2, d3] }
  | _ => none }
def GossipThreeWrongFalsely : Prop := gossipThreeRow.holds Tryd.pinned (OpenSpec.ofChange gossipThreeWrong)

/- THE SECOND FORM. 'bulk': how many values and letters a reading holds, each counted each time it is reached (what is shared counts as often as it is met; a slice's spare places count too). A statement '..UptoSaid' is the law's where the arguments, and the package variables that the reading takes, are together of bulk at most 1048576: NARROWER than '..Said'. Prove '..Said' where nothing that the law and all that it calls make is longer than what came in: it says more and counts as full. Else prove '..UptoSaid'. A law counts once. -/
mutual
def uptoBulk {H : Type} : DataW H → Nat
  | .lit (.string bytes) => bytes.length + 1
  | .lit _ => 1
  | .nil => 1
  | .ptr d => uptoBulk d + 1
  | .slice elems spare => uptoBulkAll elems + uptoBulkAll spare + 1
  | .agg parts => uptoBulkAll parts + 1
  | .iface _ d => uptoBulk d + 1
  | .map entries => uptoBulkEntries entries + 1
  | .held _ => 1
def uptoBulkAll {H : Type} : List (DataW H) → Nat
  | [] => 0
  | d :: r => uptoBulk d + uptoBulkAll r
def uptoBulkEntries {H : Type} : List (Lit × DataW H) → Nat
  | [] => 0
  | x :: r => uptoBulkEntry x + uptoBulkEntries r
def uptoBulkEntry {H : Type} : Lit × DataW H → Nat
  | (.string bytes, d) => bytes.length + uptoBulk d + 1
  | (_, d) => uptoBulk d + 1
 end
def uptoSmall : (H : Type) → List (DataW H) → Bool := fun _ ds => decide (uptoBulkAll ds ≤ 1048576)
def OpenSpec.upto (s : _root_.Go.ChangeSpec) : _root_.Go.OpenSpec := { _root_.Go.OpenSpec.ofChange s with cond := some uptoSmall }

/-- 'murmurationlaw20.AdvertsOrder', WHERE WHAT IT READS IS OF BULK AT MOST 1048576: true; the input reads as it did. -/
def advertsOrderUptoRow : OpenClaim := { program := "ytfhneademopciaadoor", sum := "18ba484a45e47684ab21379fac7bcecd9b66daebd4545ac6b7e563e1698872c5", func := "murmuration/murmurationlaw20.AdvertsOrder", spec := "advertsOrder", inPlace := ["internal/bytealg.MakeNoZero", "internal/bytealg.Compare", "slices.overlaps[murmuration/api.Attest]"], unfollowed := true, recurses := true, named := ["murmuration/sha.first", "murmuration/sha.k"], apart := false, laid := [("murmuration/sha.k", laid_murmuration_sha_k), ("murmuration/sha.first", laid_murmuration_sha_first)], narrowed := true }
def AdvertsOrderUptoSaid : Prop := advertsOrderUptoRow.holds Tryd.pinned (OpenSpec.upto advertsOrderSpec)

/-- 'murmurationlaw20.AdvertsParts', WHERE WHAT IT READS IS OF BULK AT MOST 1048576: true; the input reads as it did. -/
def advertsPartsUptoRow : OpenClaim := { program := "ytfhneademopciaadoor", sum := "18ba484a45e47684ab21379fac7bcecd9b66daebd4545ac6b7e563e1698872c5", func := "murmuration/murmurationlaw20.AdvertsParts", spec := "advertsParts", inPlace := ["internal/bytealg.MakeNoZero", "internal/bytealg.Compare", "slices.overlaps[murmuration/api.Attest]"], unfollowed := true, recurses := true, named := ["murmuration/sha.first", "murmuration/sha.k"], apart := false, laid := [("murmuration/sha.k", laid_murmuration_sha_k), ("murmuration/sha.first", laid_murmuration_sha_first)], narrowed := true }
def AdvertsPartsUptoSaid : Prop := advertsPartsUptoRow.holds Tryd.pinned (OpenSpec.upto advertsPartsSpec)

/-- 'murmurationlaw20.AdvertsSums', WHERE WHAT IT READS IS OF BULK AT MOST 1048576: true; the input reads as it did. -/
def advertsSumsUptoRow : OpenClaim := { program := "ytfhneademopciaadoor", sum := "18ba484a45e47684ab21379fac7bcecd9b66daebd4545ac6b7e563e1698872c5", func := "murmuration/murmurationlaw20.AdvertsSums", spec := "advertsSums", inPlace := ["internal/bytealg.MakeNoZero", "internal/bytealg.Compare", "slices.overlaps[murmuration/api.Attest]"], unfollowed := true, recurses := true, named := ["murmuration/sha.first", "murmuration/sha.k"], apart := false, laid := [("murmuration/sha.k", laid_murmuration_sha_k), ("murmuration/sha.first", laid_murmuration_sha_first)], narrowed := true }
def AdvertsSumsUptoSaid : Prop := advertsSumsUptoRow.holds Tryd.pinned (OpenSpec.upto advertsSumsSpec)

/-- 'murmurationlaw20.AdvertsMost', WHERE WHAT IT READS IS OF BULK AT MOST 1048576: true; the input reads as it did. -/
def advertsMostUptoRow : OpenClaim := { program := "ytfhneademopciaadoor", sum := "18ba484a45e47684ab21379fac7bcecd9b66daebd4545ac6b7e563e1698872c5", func := "murmuration/murmurationlaw20.AdvertsMost", spec := "advertsMost", inPlace := ["internal/bytealg.MakeNoZero", "internal/bytealg.Compare", "slices.overlaps[murmuration/api.Attest]"], unfollowed := true, recurses := true, named := ["murmuration/sha.first", "murmuration/sha.k"], apart := false, laid := [("murmuration/sha.k", laid_murmuration_sha_k), ("murmuration/sha.first", laid_murmuration_sha_first)], narrowed := true }
def AdvertsMostUptoSaid : Prop := advertsMostUptoRow.holds Tryd.pinned (OpenSpec.upto advertsMostSpec)

/-- 'murmurationlaw20.AdvertsPlays', WHERE WHAT IT READS IS OF BULK AT MOST 1048576: true; the input reads as it did. -/
def advertsPlaysUptoRow : OpenClaim := { program := "ytfhneademopciaadoor", sum := "18ba484a45e47684ab21379fac7bcecd9b66daebd4545ac6b7e563e1698872c5", func := "murmuration/murmurationlaw20.AdvertsPlays", spec := "advertsPlays", inPlace := ["internal/bytealg.MakeNoZero", "internal/bytealg.Compare", "slices.overlaps[murmuration/api.Attest]"], unfollowed := true, recurses := true, named := ["murmuration/sha.first", "murmuration/sha.k"], apart := false, laid := [("murmuration/sha.k", laid_murmuration_sha_k), ("murmuration/sha.first", laid_murmuration_sha_first)], narrowed := true }
def AdvertsPlaysUptoSaid : Prop := advertsPlaysUptoRow.holds Tryd.pinned (OpenSpec.upto advertsPlaysSpec)

/-- 'murmurationlaw20.AdvertsNone', WHERE WHAT IT READS IS OF BULK AT MOST 1048576: true; the input reads as it did. -/
def advertsNoneUptoRow : OpenClaim := { program := "ytfhneademopciaadoor", sum := "18ba484a45e47684ab21379fac7bcecd9b66daebd4545ac6b7e563e1698872c5", func := "murmuration/murmurationlaw20.AdvertsNone", spec := "advertsNone", inPlace := ["internal/bytealg.MakeNoZero", "internal/bytealg.Compare", "slices.overlaps[murmuration/api.Attest]"], unfollowed := true, recurses := true, named := ["murmuration/sha.first", "murmuration/sha.k"], apart := false, laid := [("murmuration/sha.k", laid_murmuration_sha_k), ("murmuration/sha.first", laid_murmuration_sha_first)], narrowed := true }
def AdvertsNoneUptoSaid : Prop := advertsNoneUptoRow.holds Tryd.pinned (OpenSpec.upto advertsNoneSpec)

/-- 'murmurationlaw21.GossipMeets', WHERE WHAT IT READS IS OF BULK AT MOST 1048576: true; the input reads as it did. -/
def gossipMeetsUptoRow : OpenClaim := { program := "ytfhneademopciaadoor", sum := "18ba484a45e47684ab21379fac7bcecd9b66daebd4545ac6b7e563e1698872c5", func := "murmuration/murmurationlaw21.GossipMeets", spec := "gossipMeets", inPlace := ["internal/bytealg.MakeNoZero", "internal/bytealg.Compare", "slices.overlaps[murmuration/api.Attest]"], unfollowed := true, recurses := true, named := ["murmuration/sha.first", "murmuration/sha.k"], apart := false, laid := [("murmuration/sha.k", laid_murmuration_sha_k), ("murmuration/sha.first", laid_murmuration_sha_first)], narrowed := true }
def GossipMeetsUptoSaid : Prop := gossipMeetsUptoRow.holds Tryd.pinned (OpenSpec.upto gossipMeetsSpec)

/-- 'murmurationlaw21.GossipQuiet', WHERE WHAT IT READS IS OF BULK AT MOST 1048576: true; the input reads as it did. -/
def gossipQuietUptoRow : OpenClaim := { program := "ytfhneademopciaadoor", sum := "18ba484a45e47684ab21379fac7bcecd9b66daebd4545ac6b7e563e1698872c5", func := "murmuration/murmurationlaw21.GossipQuiet", spec := "gossipQuiet", inPlace := ["internal/bytealg.MakeNoZero", "internal/bytealg.Compare", "slices.overlaps[murmuration/api.Attest]"], unfollowed := true, recurses := true, named := ["murmuration/sha.first", "murmuration/sha.k"], apart := false, laid := [("murmuration/sha.k", laid_murmuration_sha_k), ("murmuration/sha.first", laid_murmuration_sha_first)], narrowed := true }
def GossipQuietUptoSaid : Prop := gossipQuietUptoRow.holds Tryd.pinned (OpenSpec.upto gossipQuietSpec)

/-- 'murmurationlaw21.GossipLearns', WHERE WHAT IT READS IS OF BULK AT MOST 1048576: true; the input reads as it did. -/
def gossipLearnsUptoRow : OpenClaim := { program := "ytfhneademopciaadoor", sum := "18ba484a45e47684ab21379fac7bcecd9b66daebd4545ac6b7e563e1698872c5", func := "murmuration/murmurationlaw21.GossipLearns", spec := "gossipLearns", inPlace := ["internal/bytealg.MakeNoZero", "internal/bytealg.Compare", "slices.overlaps[murmuration/api.Attest]"], unfollowed := true, recurses := true, named := ["murmuration/sha.first", "murmuration/sha.k"], apart := false, laid := [("murmuration/sha.k", laid_murmuration_sha_k), ("murmuration/sha.first", laid_murmuration_sha_first)], narrowed := true }
def GossipLearnsUptoSaid : Prop := gossipLearnsUptoRow.holds Tryd.pinned (OpenSpec.upto gossipLearnsSpec)

/-- 'murmurationlaw21.GossipThree', WHERE WHAT IT READS IS OF BULK AT MOST 1048576: true; the input reads as it did. -/
def gossipThreeUptoRow : OpenClaim := { program := "ytfhneademopciaadoor", sum := "18ba484a45e47684ab21379fac7bcecd9b66daebd4545ac6b7e563e1698872c5", func := "murmuration/murmurationlaw21.GossipThree", spec := "gossipThree", inPlace := ["internal/bytealg.MakeNoZero", "internal/bytealg.Compare", "slices.overlaps[murmuration/api.Attest]"], unfollowed := true, recurses := true, named := ["murmuration/sha.first", "murmuration/sha.k"], apart := false, laid := [("murmuration/sha.k", laid_murmuration_sha_k), ("murmuration/sha.first", laid_murmuration_sha_first)], narrowed := true }
def GossipThreeUptoSaid : Prop := gossipThreeUptoRow.holds Tryd.pinned (OpenSpec.upto gossipThreeSpec)

end Rows
end Go.Proofs.YtfhneademopciaaDoor
