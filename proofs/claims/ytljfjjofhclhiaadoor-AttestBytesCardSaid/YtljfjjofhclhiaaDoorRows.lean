/-
  NARROWER THAN 'FOR EVERY INPUT', by the rows' own cells (each row's printed sentence says how): HmacTags: laid · HmacParts: laid · HmacSame: laid · AttestMakes: laid · AttestRight: laid · AttestOnly: laid · AttestSecrets: laid · AttestOrder: laid · AttestBytes: laid.
  DERIVED. THE GIVEN ROWS OF THIS SEAT. 9 by the template 'for every input the law returns true; each argument reads behind the call as it read before'; 0 by the template 'total and deterministic' (their statements: YtljfjjofhclhiaaDoorTotals.lean).
  GIVEN WITH THE SEED: the statements are not yours to turn. If you find one false, say at which input.
  Laid BY PROGRAM, IN A SANDBOX (cutbox-rows.mjs): the forced cells as the released guide's own fill.sh prints them over the translation e00ae32d0216d0b9… (all of the seat's roots in one cut). By AI agents, Wed Nov 11 2026. No macro, syntax, notation, axiom, sorry.
-/
import Derived.Test.YtljfjjofhclhiaaDoorChecked
import GoSem.Claim
import GoSem.ClaimJoined
import GoSem.ClaimMapViews
import Derived.JoinedTies
import Derived.KernelRfl
namespace Go.Proofs.YtljfjjofhclhiaaDoor
/- THE CELL 'sum', in the pinned program and in every row, IS THE sha256 OF THE DUMP (.gsa) THAT YtljfjjofhclhiaaDoorProg.lean LOADS. Nothing in Lean hashes anything: it is a label: what it is worth is what the hold of that sum in a sandbox is worth. -/
noncomputable def Tryd.pinned : Pinned := { name := "ytljfjjofhclhiaadoor", sum := "e00ae32d0216d0b9a8df9a2294d8915a8cfe05fc3ac8e7ac65b587bf6f7361a2", checked := Tryd.checked }
namespace Rows
def none {H : Type} : Left H := { results := [], args := [] }

/- WHAT THE LISTED PACKAGE-LEVEL VARIABLES READ AS WHEN THE CALL BEGINS. Each datum BY PROGRAM (the guide's laid-datum.mjs) off the statement by which the dump's own 'gosem.cut.vars' lays the variable. In a bare row this is a premise. The card (YtljfjjofhclhiaaDoorCards.lean) ties it to the program's text. -/
def laid_murmuration_sha_k {H : Type} : DataW H := .agg [.lit (.int .u32 1116352408), .lit (.int .u32 1899447441), .lit (.int .u32 3049323471), .lit (.int .u32 3921009573), .lit (.int .u32 961987163), .lit (.int .u32 1508970993), .lit (.int .u32 2453635748), .lit (.int .u32 2870763221), .lit (.int .u32 3624381080), .lit (.int .u32 310598401), .lit (.int .u32 607225278), .lit (.int .u32 1426881987), .lit (.int .u32 1925078388), .lit (.int .u32 2162078206), .lit (.int .u32 2614888103), .lit (.int .u32 3248222580), .lit (.int .u32 3835390401), .lit (.int .u32 4022224774), .lit (.int .u32 264347078), .lit (.int .u32 604807628), .lit (.int .u32 770255983), .lit (.int .u32 1249150122), .lit (.int .u32 1555081692), .lit (.int .u32 1996064986), .lit (.int .u32 2554220882), .lit (.int .u32 2821834349), .lit (.int .u32 2952996808), .lit (.int .u32 3210313671), .lit (.int .u32 3336571891), .lit (.int .u32 3584528711), .lit (.int .u32 113926993), .lit (.int .u32 338241895), .lit (.int .u32 666307205), .lit (.int .u32 773529912), .lit (.int .u32 1294757372), .lit (.int .u32 1396182291), .lit (.int .u32 1695183700), .lit (.int .u32 1986661051), .lit (.int .u32 2177026350), .lit (.int .u32 2456956037), .lit (.int .u32 2730485921), .lit (.int .u32 2820302411), .lit (.int .u32 3259730800), .lit (.int .u32 3345764771), .lit (.int .u32 3516065817), .lit (.int .u32 3600352804), .lit (.int .u32 4094571909), .lit (.int .u32 275423344), .lit (.int .u32 430227734), .lit (.int .u32 506948616), .lit (.int .u32 659060556), .lit (.int .u32 883997877), .lit (.int .u32 958139571), .lit (.int .u32 1322822218), .lit (.int .u32 1537002063), .lit (.int .u32 1747873779), .lit (.int .u32 1955562222), .lit (.int .u32 2024104815), .lit (.int .u32 2227730452), .lit (.int .u32 2361852424), .lit (.int .u32 2428436474), .lit (.int .u32 2756734187), .lit (.int .u32 3204031479), .lit (.int .u32 3329325298)]
def laid_murmuration_sha_first {H : Type} : DataW H := .agg [.lit (.int .u32 1779033703), .lit (.int .u32 3144134277), .lit (.int .u32 1013904242), .lit (.int .u32 2773480762), .lit (.int .u32 1359893119), .lit (.int .u32 2600822924), .lit (.int .u32 528734635), .lit (.int .u32 1541459225)]

/-- 'murmurationlaw02.HmacTags': WHATEVER THE INPUT: true; the input reads as it did. -/
def hmacTagsSpec : ChangeSpec := { name := "hmacTags", fn := fun _ => fun
  | [d1, d2] => { results := [.lit (.bool true)], args := [d1, d2] }
  | _ => none }
def hmacTagsRow : OpenClaim := { program := "ytljfjjofhclhiaadoor", sum := "e00ae32d0216d0b9a8df9a2294d8915a8cfe05fc3ac8e7ac65b587bf6f7361a2", func := "murmuration/murmurationlaw02.HmacTags", spec := "hmacTags", named := ["murmuration/sha.first", "murmuration/sha.k"], apart := false, laid := [("murmuration/sha.k", laid_murmuration_sha_k), ("murmuration/sha.first", laid_murmuration_sha_first)] }
def HmacTagsSaid : Prop := hmacTagsRow.holds Tryd.pinned (OpenSpec.ofChange hmacTagsSpec)

/-- ITS FALSE NEIGHBOUR: 'it returns false'. Refute it at one input. -/
def hmacTagsWrong : ChangeSpec := { name := "hmacTags", fn := fun _ => fun
  | [d1, d2] => { results := [.lit (.bool false)], args := [d1, d2] }
  | _ => none }
def HmacTagsWrongFalsely : Prop := hmacTagsRow.holds Tryd.pinned (OpenSpec.ofChange hmacTagsWrong)

/-- 'murmurationlaw02.HmacParts': WHATEVER THE INPUT: true; the input reads as it did. -/
def hmacPartsSpec : ChangeSpec := { name := "hmacParts", fn := fun _ => fun
  | [d1, d2, d3] => { results := [.lit (.bool true)], args := [d1, d2, d3] }
  | _ => none }
def hmacPartsRow : OpenClaim := { program := "ytljfjjofhclhiaadoor", sum := "e00ae32d0216d0b9a8df9a2294d8915a8cfe05fc3ac8e7ac65b587bf6f7361a2", func := "murmuration/murmurationlaw02.HmacParts", spec := "hmacParts", named := ["murmuration/sha.first", "murmuration/sha.k"], apart := false, laid := [("murmuration/sha.k", laid_murmuration_sha_k), ("murmuration/sha.first", laid_murmuration_sha_first)] }
def HmacPartsSaid : Prop := hmacPartsRow.holds Tryd.pinned (OpenSpec.ofChange hmacPartsSpec)

/-- ITS FALSE NEIGHBOUR: 'it returns false'. Refute it at one input. -/
def hmacPartsWrong : ChangeSpec := { name := "hmacParts", fn := fun _ => fun
  | [d1, d2, d3] => { results := [.lit (.bool false)], args := [d1, d2, d3] }
  | _ => none }
def HmacPartsWrongFalsely : Prop := hmacPartsRow.holds Tryd.pinned (OpenSpec.ofChange hmacPartsWrong)

/-- 'murmurationlaw02.HmacSame': WHATEVER THE INPUT: true; the input reads as it did. -/
def hmacSameSpec : ChangeSpec := { name := "hmacSame", fn := fun _ => fun
  | [d1, d2, d3] => { results := [.lit (.bool true)], args := [d1, d2, d3] }
  | _ => none }
def hmacSameRow : OpenClaim := { program := "ytljfjjofhclhiaadoor", sum := "e00ae32d0216d0b9a8df9a2294d8915a8cfe05fc3ac8e7ac65b587bf6f7361a2", func := "murmuration/murmurationlaw02.HmacSame", spec := "hmacSame", named := ["murmuration/sha.first", "murmuration/sha.k"], apart := false, laid := [("murmuration/sha.k", laid_murmuration_sha_k), ("murmuration/sha.first", laid_murmuration_sha_first)] }
def HmacSameSaid : Prop := hmacSameRow.holds Tryd.pinned (OpenSpec.ofChange hmacSameSpec)

/-- ITS FALSE NEIGHBOUR: 'it returns false'. Refute it at one input. -/
def hmacSameWrong : ChangeSpec := { name := "hmacSame", fn := fun _ => fun
  | [d1, d2, d3] => { results := [.lit (.bool false)], args := [d1, d2, d3] }
  | _ => none }
def HmacSameWrongFalsely : Prop := hmacSameRow.holds Tryd.pinned (OpenSpec.ofChange hmacSameWrong)

/-- 'murmurationlaw09.AttestMakes': WHATEVER THE INPUT: true; the input reads as it did. -/
def attestMakesSpec : ChangeSpec := { name := "attestMakes", fn := fun _ => fun
  | [d1, d2, d3, d4] => { results := [.lit (.bool true)], args := [d1, d2, d3, d4] }
  | _ => none }
def attestMakesRow : OpenClaim := { program := "ytljfjjofhclhiaadoor", sum := "e00ae32d0216d0b9a8df9a2294d8915a8cfe05fc3ac8e7ac65b587bf6f7361a2", func := "murmuration/murmurationlaw09.AttestMakes", spec := "attestMakes", named := ["murmuration/sha.first", "murmuration/sha.k"], apart := false, laid := [("murmuration/sha.k", laid_murmuration_sha_k), ("murmuration/sha.first", laid_murmuration_sha_first)] }
def AttestMakesSaid : Prop := attestMakesRow.holds Tryd.pinned (OpenSpec.ofChange attestMakesSpec)

/-- ITS FALSE NEIGHBOUR: 'it returns false'. Refute it at one input. -/
def attestMakesWrong : ChangeSpec := { name := "attestMakes", fn := fun _ => fun
  | [d1, d2, d3, d4] => { results := [.lit (.bool false)], args := [d1, d2, d3, d4] }
  | _ => none }
def AttestMakesWrongFalsely : Prop := attestMakesRow.holds Tryd.pinned (OpenSpec.ofChange attestMakesWrong)

/-- 'murmurationlaw09.AttestRight': WHATEVER THE INPUT: true; the input reads as it did. -/
def attestRightSpec : ChangeSpec := { name := "attestRight", fn := fun _ => fun
  | [d1, d2] => { results := [.lit (.bool true)], args := [d1, d2] }
  | _ => none }
def attestRightRow : OpenClaim := { program := "ytljfjjofhclhiaadoor", sum := "e00ae32d0216d0b9a8df9a2294d8915a8cfe05fc3ac8e7ac65b587bf6f7361a2", func := "murmuration/murmurationlaw09.AttestRight", spec := "attestRight", named := ["murmuration/sha.first", "murmuration/sha.k"], apart := false, laid := [("murmuration/sha.k", laid_murmuration_sha_k), ("murmuration/sha.first", laid_murmuration_sha_first)] }
def AttestRightSaid : Prop := attestRightRow.holds Tryd.pinned (OpenSpec.ofChange attestRightSpec)

/-- ITS FALSE NEIGHBOUR: 'it returns false'. Refute it at one input. -/
def attestRightWrong : ChangeSpec := { name := "attestRight", fn := fun _ => fun
  | [d1, d2] => { results := [.lit (.bool false)], args := [d1, d2] }
  | _ => none }
def AttestRightWrongFalsely : Prop := attestRightRow.holds Tryd.pinned (OpenSpec.ofChange attestRightWrong)

/-- 'murmurationlaw09.AttestOnly': WHATEVER THE INPUT: true; the input reads as it did. -/
def attestOnlySpec : ChangeSpec := { name := "attestOnly", fn := fun _ => fun
  | [d1, d2, d3] => { results := [.lit (.bool true)], args := [d1, d2, d3] }
  | _ => none }
def attestOnlyRow : OpenClaim := { program := "ytljfjjofhclhiaadoor", sum := "e00ae32d0216d0b9a8df9a2294d8915a8cfe05fc3ac8e7ac65b587bf6f7361a2", func := "murmuration/murmurationlaw09.AttestOnly", spec := "attestOnly", named := ["murmuration/sha.first", "murmuration/sha.k"], apart := false, laid := [("murmuration/sha.k", laid_murmuration_sha_k), ("murmuration/sha.first", laid_murmuration_sha_first)] }
def AttestOnlySaid : Prop := attestOnlyRow.holds Tryd.pinned (OpenSpec.ofChange attestOnlySpec)

/-- ITS FALSE NEIGHBOUR: 'it returns false'. Refute it at one input. -/
def attestOnlyWrong : ChangeSpec := { name := "attestOnly", fn := fun _ => fun
  | [d1, d2, d3] => { results := [.lit (.bool false)], args := [d1, d2, d3] }
  | _ => none }
def AttestOnlyWrongFalsely : Prop := attestOnlyRow.holds Tryd.pinned (OpenSpec.ofChange attestOnlyWrong)

/-- 'murmurationlaw09.AttestSecrets': WHATEVER THE INPUT: true; the input reads as it did. -/
def attestSecretsSpec : ChangeSpec := { name := "attestSecrets", fn := fun _ => fun
  | [d1, d2, d3] => { results := [.lit (.bool true)], args := [d1, d2, d3] }
  | _ => none }
def attestSecretsRow : OpenClaim := { program := "ytljfjjofhclhiaadoor", sum := "e00ae32d0216d0b9a8df9a2294d8915a8cfe05fc3ac8e7ac65b587bf6f7361a2", func := "murmuration/murmurationlaw09.AttestSecrets", spec := "attestSecrets", named := ["murmuration/sha.first", "murmuration/sha.k"], apart := false, laid := [("murmuration/sha.k", laid_murmuration_sha_k), ("murmuration/sha.first", laid_murmuration_sha_first)] }
def AttestSecretsSaid : Prop := attestSecretsRow.holds Tryd.pinned (OpenSpec.ofChange attestSecretsSpec)

/-- ITS FALSE NEIGHBOUR: 'it returns false'. Refute it at one input. -/
def attestSecretsWrong : ChangeSpec := { name := "attestSecrets", fn := fun _ => fun
  | [d1, d2, d3] => { results := [.lit (.bool false)], args := [d1, d2, d3] }
  | _ => none }
def AttestSecretsWrongFalsely : Prop := attestSecretsRow.holds Tryd.pinned (OpenSpec.ofChange attestSecretsWrong)

/-- 'murmurationlaw09.AttestOrder': WHATEVER THE INPUT: true; the input reads as it did. -/
def attestOrderSpec : ChangeSpec := { name := "attestOrder", fn := fun _ => fun
  | [d1, d2, d3] => { results := [.lit (.bool true)], args := [d1, d2, d3] }
  | _ => none }
def attestOrderRow : OpenClaim := { program := "ytljfjjofhclhiaadoor", sum := "e00ae32d0216d0b9a8df9a2294d8915a8cfe05fc3ac8e7ac65b587bf6f7361a2", func := "murmuration/murmurationlaw09.AttestOrder", spec := "attestOrder", inPlace := ["internal/bytealg.MakeNoZero", "internal/bytealg.Compare"], named := ["murmuration/sha.first", "murmuration/sha.k"], apart := false, laid := [("murmuration/sha.k", laid_murmuration_sha_k), ("murmuration/sha.first", laid_murmuration_sha_first)] }
def AttestOrderSaid : Prop := attestOrderRow.holds Tryd.pinned (OpenSpec.ofChange attestOrderSpec)

/-- ITS FALSE NEIGHBOUR: 'it returns false'. Refute it at one input. -/
def attestOrderWrong : ChangeSpec := { name := "attestOrder", fn := fun _ => fun
  | [d1, d2, d3] => { results := [.lit (.bool false)], args := [d1, d2, d3] }
  | _ => none }
def AttestOrderWrongFalsely : Prop := attestOrderRow.holds Tryd.pinned (OpenSpec.ofChange attestOrderWrong)

/-- 'murmurationlaw09.AttestBytes': WHATEVER THE INPUT: true; the input reads as it did. -/
def attestBytesSpec : ChangeSpec := { name := "attestBytes", fn := fun _ => fun
  | [d1, d2, d3] => { results := [.lit (.bool true)], args := [d1, d2, d3] }
  | _ => none }
def attestBytesRow : OpenClaim := { program := "ytljfjjofhclhiaadoor", sum := "e00ae32d0216d0b9a8df9a2294d8915a8cfe05fc3ac8e7ac65b587bf6f7361a2", func := "murmuration/murmurationlaw09.AttestBytes", spec := "attestBytes", inPlace := ["internal/bytealg.MakeNoZero", "internal/bytealg.Compare"], named := ["murmuration/sha.first", "murmuration/sha.k"], apart := false, laid := [("murmuration/sha.k", laid_murmuration_sha_k), ("murmuration/sha.first", laid_murmuration_sha_first)] }
def AttestBytesSaid : Prop := attestBytesRow.holds Tryd.pinned (OpenSpec.ofChange attestBytesSpec)

/-- ITS FALSE NEIGHBOUR: 'it returns false'. Refute it at one input. -/
def attestBytesWrong : ChangeSpec := { name := "attestBytes", fn := fun _ => fun
  | [d1, d2, d3] => { results := [.lit (.bool false)], args := [d1, d2, d3] }
  | _ => none }
def AttestBytesWrongFalsely : Prop := attestBytesRow.holds Tryd.pinned (OpenSpec.ofChange attestBytesWrong)

/- THE SECOND FORM. 'bulk': how many values and letters a reading holds, each counted each time it is reached (what is shared counts as often as it is met; a slice's spare places count too). A statement '..UptoSaid' is the law's where the arguments, and the package variables that the reading takes, are together of bulk at most 1048576: NARROWER than '..Said'. Prove '..Said' where nothing that the law and all that it calls make is longer than what came in: it says more and counts as full. Else prove '..UptoSaid'. A law counts once. -/
mutual
def uptoBulk {H : Type} : DataW H → Nat
  | .lit (.string bytes) => bytes.length + 1
  | .lit _ => 1
  | .nil => 1
  | .ptr d => uptoBulk d + 1
  | .slice elems spare => uptoBulkAll elems + uptoBulkAll spare + 1
  | .agg parts => uptoBulkAll parts + 1
  | .iface _ d => uptoBulk d + 1
  | .map entries => uptoBulkEntries entries + 1
  | .held _ => 1
def uptoBulkAll {H : Type} : List (DataW H) → Nat
  | [] => 0
  | d :: r => uptoBulk d + uptoBulkAll r
def uptoBulkEntries {H : Type} : List (Lit × DataW H) → Nat
  | [] => 0
  | x :: r => uptoBulkEntry x + uptoBulkEntries r
def uptoBulkEntry {H : Type} : Lit × DataW H → Nat
  | (.string bytes, d) => bytes.length + uptoBulk d + 1
  | (_, d) => uptoBulk d + 1
 end
def uptoSmall : (H : Type) → List (DataW H) → Bool := fun _ ds => decide (uptoBulkAll ds ≤ 1048576)
def OpenSpec.upto (s : _root_.Go.ChangeSpec) : _root_.Go.OpenSpec := { _root_.Go.OpenSpec.ofChange s with cond := some uptoSmall }

/-- 'murmurationlaw02.HmacTags', WHERE WHAT IT READS IS OF BULK AT MOST 1048576: true; the input reads as it did. -/
def hmacTagsUptoRow : OpenClaim := { program := "ytljfjjofhclhiaadoor", sum := "e00ae32d0216d0b9a8df9a2294d8915a8cfe05fc3ac8e7ac65b587bf6f7361a2", func := "murmuration/murmurationlaw02.HmacTags", spec := "hmacTags", named := ["murmuration/sha.first", "murmuration/sha.k"], apart := false, laid := [("murmuration/sha.k", laid_murmuration_sha_k), ("murmuration/sha.first", laid_murmuration_sha_first)], narrowed := true }
def HmacTagsUptoSaid : Prop := hmacTagsUptoRow.holds Tryd.pinned (OpenSpec.upto hmacTagsSpec)

/-- 'murmurationlaw02.HmacParts', WHERE WHAT IT READS IS OF BULK AT MOST 1048576: true; the input reads as it did. -/
def hmacPartsUptoRow : OpenClaim := { program := "ytljfjjofhclhiaadoor", sum := "e00ae32d0216d0b9a8df9a2294d8915a8cfe05fc3ac8e7ac65b587bf6f7361a2", func := "murmuration/murmurationlaw02.HmacParts", spec := "hmacParts", named := ["murmuration/sha.first", "murmuration/sha.k"], apart := false, laid := [("murmuration/sha.k", laid_murmuration_sha_k), ("murmuration/sha.first", laid_murmuration_sha_first)], narrowed := true }
def HmacPartsUptoSaid : Prop := hmacPartsUptoRow.holds Tryd.pinned (OpenSpec.upto hmacPartsSpec)

/-- 'murmurationlaw02.HmacSame', WHERE WHAT IT READS IS OF BULK AT MOST 1048576: true; the input reads as it did. -/
def hmacSameUptoRow : OpenClaim := { program := "ytljfjjofhclhiaadoor", sum := "e00ae32d0216d0b9a8df9a2294d8915a8cfe05fc3ac8e7ac65b587bf6f7361a2", func := "murmuration/murmurationlaw02.HmacSame", spec := "hmacSame", named := ["murmuration/sha.first", "murmuration/sha.k"], apart := false, laid := [("murmuration/sha.k", laid_murmuration_sha_k), ("murmuration/sha.first", laid_murmuration_sha_first)], narrowed := true }
def HmacSameUptoSaid : Prop := hmacSameUptoRow.holds Tryd.pinned (OpenSpec.upto hmacSameSpec)

/-- 'murmurationlaw09.AttestMakes', WHERE WHAT IT READS IS OF BULK AT MOST 1048576: true; the input reads as it did. -/
def attestMakesUptoRow : OpenClaim := { program := "ytljfjjofhclhiaadoor", sum := "e00ae32d0216d0b9a8df9a2294d8915a8cfe05fc3ac8e7ac65b587bf6f7361a2", func := "murmuration/murmurationlaw09.AttestMakes", spec := "attestMakes", named := ["murmuration/sha.first", "murmuration/sha.k"], apart := false, laid := [("murmuration/sha.k", laid_murmuration_sha_k), ("murmuration/sha.first", laid_murmuration_sha_first)], narrowed := true }
def AttestMakesUptoSaid : Prop := attestMakesUptoRow.holds Tryd.pinned (OpenSpec.upto attestMakesSpec)

/-- 'murmurationlaw09.AttestRight', WHERE WHAT IT READS IS OF BULK AT MOST 1048576: true; the input reads as it did. -/
def attestRightUptoRow : OpenClaim := { program := "ytljfjjofhclhiaadoor", sum := "e00ae32d0216d0b9a8df9a2294d8915a8cfe05fc3ac8e7ac65b587bf6f7361a2", func := "murmuration/murmurationlaw09.AttestRight", spec := "attestRight", named := ["murmuration/sha.first", "murmuration/sha.k"], apart := false, laid := [("murmuration/sha.k", laid_murmuration_sha_k), ("murmuration/sha.first", laid_murmuration_sha_first)], narrowed := true }
def AttestRightUptoSaid : Prop := attestRightUptoRow.holds Tryd.pinned (OpenSpec.upto attestRightSpec)

/-- 'murmurationlaw09.AttestOnly', WHERE WHAT IT READS IS OF BULK AT MOST 1048576: true; the input reads as it did. -/
def attestOnlyUptoRow : OpenClaim := { program := "ytljfjjofhclhiaadoor", sum := "e00ae32d0216d0b9a8df9a2294d8915a8cfe05fc3ac8e7ac65b587bf6f7361a2", func := "murmuration/murmurationlaw09.AttestOnly", spec := "attestOnly", named := ["murmuration/sha.first", "murmuration/sha.k"], apart := false, laid := [("murmuration/sha.k", laid_murmuration_sha_k), ("murmuration/sha.first", laid_murmuration_sha_first)], narrowed := true }
def AttestOnlyUptoSaid : Prop := attestOnlyUptoRow.holds Tryd.pinned (OpenSpec.upto attestOnlySpec)

/-- 'murmurationlaw09.AttestSecrets', WHERE WHAT IT READS IS OF BULK AT MOST 1048576: true; the input reads as it did. -/
def attestSecretsUptoRow : OpenClaim := { program := "ytljfjjofhclhiaadoor", sum := "e00ae32d0216d0b9a8df9a2294d8915a8cfe05fc3ac8e7ac65b587bf6f7361a2", func := "murmuration/murmurationlaw09.AttestSecrets", spec := "attestSecrets", named := ["murmuration/sha.first", "murmuration/sha.k"], apart := false, laid := [("murmuration/sha.k", laid_murmuration_sha_k), ("murmuration/sha.first", laid_murmuration_sha_first)], narrowed := true }
def AttestSecretsUptoSaid : Prop := attestSecretsUptoRow.holds Tryd.pinned (OpenSpec.upto attestSecretsSpec)

/-- 'murmurationlaw09.AttestOrder', WHERE WHAT IT READS IS OF BULK AT MOST 1048576: true; the input reads as it did. -/
def attestOrderUptoRow : OpenClaim := { program := "ytljfjjofhclhiaadoor", sum := "e00ae32d0216d0b9a8df9a2294d8915a8cfe05fc3ac8e7ac65b587bf6f7361a2", func := "murmuration/murmurationlaw09.AttestOrder", spec := "attestOrder", inPlace := ["internal/bytealg.MakeNoZero", "internal/bytealg.Compare"], named := ["murmuration/sha.first", "murmuration/sha.k"], apart := false, laid := [("murmuration/sha.k", laid_murmuration_sha_k), ("murmuration/sha.first", laid_murmuration_sha_first)], narrowed := true }
def AttestOrderUptoSaid : Prop := attestOrderUptoRow.holds Tryd.pinned (OpenSpec.upto attestOrderSpec)

/-- 'murmurationlaw09.AttestBytes', WHERE WHAT IT READS IS OF BULK AT MOST 1048576: true; the input reads as it did. -/
def attestBytesUptoRow : OpenClaim := { program := "ytljfjjofhclhiaadoor", sum := "e00ae32d0216d0b9a8df9a2294d8915a8cfe05fc3ac8e7ac65b587bf6f7361a2", func := "murmuration/murmurationlaw09.AttestBytes", spec := "attestBytes", inPlace := ["internal/bytealg.MakeNoZero", "internal/bytealg.Compare"], named := ["murmuration/sha.first", "murmuration/sha.k"], apart := false, laid := [("murmuration/sha.k", laid_murmuration_sha_k), ("murmuration/sha.first", laid_murmuration_sha_first)], narrowed := true }
def AttestBytesUptoSaid : Prop := attestBytesUptoRow.holds Tryd.pinned (OpenSpec.upto attestBytesSpec)

end Rows
end Go.Proofs.YtljfjjofhclhiaaDoor
