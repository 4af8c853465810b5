/-
  No cell of these rows narrows 'for every input' (looked for: loops, veiled, ifaces, maps, wideKeys, modest, calm, conditions, laid).
  DERIVED. THE GIVEN ROWS OF THIS SEAT. 4 by the template 'for every input the law returns true; each argument reads behind the call as it read before'; 0 by the template 'total and deterministic' (their statements: YtidhohnhhhooaaaTotals.lean).
  GIVEN WITH THE SEED: the statements are not yours to turn. If you find one false, say at which input.
  Laid BY PROGRAM, IN A SANDBOX (cutbox-rows.mjs): the forced cells as the released guide's own fill.sh prints them over the translation 77a4ff2c1563dcf7… (all of the seat's roots in one cut). By AI agents, Wed Nov 11 2026. No macro, syntax, notation, axiom, sorry.
-/
import Derived.Test.YtidhohnhhhooaaaChecked
import GoSem.Claim
import GoSem.ClaimJoined
import GoSem.ClaimMapViews
import Derived.JoinedTies
import Derived.KernelRfl
namespace Go.Proofs.Ytidhohnhhhooaaa
/- THE CELL 'sum', in the pinned program and in every row, IS THE sha256 OF THE DUMP (.gsa) THAT YtidhohnhhhooaaaProg.lean LOADS. Nothing in Lean hashes anything: it is a label: what it is worth is what the hold of that sum in a sandbox is worth. -/
noncomputable def Try.pinned : Pinned := { name := "ytidhohnhhhooaaa", sum := "77a4ff2c1563dcf728890147fc2ac8f61378913b46da907ed03017a6ca075017", checked := Try.checked }
namespace Rows
def none {H : Type} : Left H := { results := [], args := [] }

/-- 'murmurationlaw26.BuilderPlays': WHATEVER THE INPUT: true; the input reads as it did. -/
def builderPlaysSpec : ChangeSpec := { name := "builderPlays", fn := fun _ => fun
  | [d1, d2, d3] => { results := [.lit (.bool true)], args := [d1, d2, d3] }
  | _ => none }
def builderPlaysRow : OpenClaim := { program := "ytidhohnhhhooaaa", sum := "77a4ff2c1563dcf728890147fc2ac8f61378913b46da907ed03017a6ca075017", func := "murmuration/murmurationlaw26.BuilderPlays", spec := "builderPlays", apart := false }
def BuilderPlaysSaid : Prop := builderPlaysRow.holds Try.pinned (OpenSpec.ofChange builderPlaysSpec)

/-- ITS FALSE NEIGHBOUR: 'it returns false'. Refute it at one input. -/
def builderPlaysWrong : ChangeSpec := { name := "builderPlays", fn := fun _ => fun
  | [d1, d2, d3] => { results := [.lit (.bool false)], args := [d1, d2, d3] }
  | _ => none }
def BuilderPlaysWrongFalsely : Prop := builderPlaysRow.holds Try.pinned (OpenSpec.ofChange builderPlaysWrong)

/-- 'murmurationlaw26.BuilderEnds': WHATEVER THE INPUT: true; the input reads as it did. -/
def builderEndsSpec : ChangeSpec := { name := "builderEnds", fn := fun _ => fun
  | [d1, d2, d3] => { results := [.lit (.bool true)], args := [d1, d2, d3] }
  | _ => none }
def builderEndsRow : OpenClaim := { program := "ytidhohnhhhooaaa", sum := "77a4ff2c1563dcf728890147fc2ac8f61378913b46da907ed03017a6ca075017", func := "murmuration/murmurationlaw26.BuilderEnds", spec := "builderEnds", apart := false }
def BuilderEndsSaid : Prop := builderEndsRow.holds Try.pinned (OpenSpec.ofChange builderEndsSpec)

/-- ITS FALSE NEIGHBOUR: 'it returns false'. Refute it at one input. -/
def builderEndsWrong : ChangeSpec := { name := "builderEnds", fn := fun _ => fun
  | [d1, d2, d3] => { results := [.lit (.bool false)], args := [d1, d2, d3] }
  | _ => none }
def BuilderEndsWrongFalsely : Prop := builderEndsRow.holds Try.pinned (OpenSpec.ofChange builderEndsWrong)

/-- 'murmurationlaw26.BuilderOnce': WHATEVER THE INPUT: true; the input reads as it did. -/
def builderOnceSpec : ChangeSpec := { name := "builderOnce", fn := fun _ => fun
  | [d1, d2, d3] => { results := [.lit (.bool true)], args := [d1, d2, d3] }
  | _ => none }
def builderOnceRow : OpenClaim := { program := "ytidhohnhhhooaaa", sum := "77a4ff2c1563dcf728890147fc2ac8f61378913b46da907ed03017a6ca075017", func := "murmuration/murmurationlaw26.BuilderOnce", spec := "builderOnce", apart := false }
def BuilderOnceSaid : Prop := builderOnceRow.holds Try.pinned (OpenSpec.ofChange builderOnceSpec)

/-- ITS FALSE NEIGHBOUR: 'it returns false'. Refute it at one input. -/
def builderOnceWrong : ChangeSpec := { name := "builderOnce", fn := fun _ => fun
  | [d1, d2, d3] => { results := [.lit (.bool false)], args := [d1, d2, d3] }
  | _ => none }
def BuilderOnceWrongFalsely : Prop := builderOnceRow.holds Try.pinned (OpenSpec.ofChange builderOnceWrong)

/-- 'murmurationlaw26.BuilderWaits': WHATEVER THE INPUT: true; the input reads as it did. -/
def builderWaitsSpec : ChangeSpec := { name := "builderWaits", fn := fun _ => fun
  | [d1, d2, d3, d4] => { results := [.lit (.bool true)], args := [d1, d2, d3, d4] }
  | _ => none }
def builderWaitsRow : OpenClaim := { program := "ytidhohnhhhooaaa", sum := "77a4ff2c1563dcf728890147fc2ac8f61378913b46da907ed03017a6ca075017", func := "murmuration/murmurationlaw26.BuilderWaits", spec := "builderWaits", apart := false }
def BuilderWaitsSaid : Prop := builderWaitsRow.holds Try.pinned (OpenSpec.ofChange builderWaitsSpec)

/-- ITS FALSE NEIGHBOUR: 'it returns false'. Refute it at one input. -/
def builderWaitsWrong : ChangeSpec := { name := "builderWaits", fn := fun _ => fun
  | [d1, d2, d3, d4] => { results := [.lit (.bool false)], args := [d1, d2, d3, d4] }
  | _ => none }
def BuilderWaitsWrongFalsely : Prop := builderWaitsRow.holds Try.pinned (OpenSpec.ofChange builderWaitsWrong)

/- THE SECOND FORM. 'bulk': how many values and letters a reading holds, each counted each time it is reached (what is shared counts as often as it is met; a slice's spare places count too). A statement '..UptoSaid' is the law's where the arguments, and the package variables that the reading takes, are together of bulk at most 1048576: NARROWER than '..Said'. Prove '..Said' where nothing that the law and all that it calls make is longer than what came in: it says more and counts as full. Else prove '..UptoSaid'. A law counts once. -/
mutual
def uptoBulk {H : Type} : DataW H → Nat
  | .lit (.string bytes) => bytes.length + 1
  | .lit _ => 1
  | .nil => 1
  | .ptr d => uptoBulk d + 1
  | .slice elems spare => uptoBulkAll elems + uptoBulkAll spare + 1
  | .agg parts => uptoBulkAll parts + 1
  | .iface _ d => uptoBulk d + 1
  | .map entries => uptoBulkEntries entries + 1
  | .held _ => 1
def uptoBulkAll {H : Type} : List (DataW H) → Nat
  | [] => 0
  | d :: r => uptoBulk d + uptoBulkAll r
def uptoBulkEntries {H : Type} : List (Lit × DataW H) → Nat
  | [] => 0
  | x :: r => uptoBulkEntry x + uptoBulkEntries r
def uptoBulkEntry {H : Type} : Lit × DataW H → Nat
  | (.string bytes, d) => bytes.length + uptoBulk d + 1
  | (_, d) => uptoBulk d + 1
 end
def uptoSmall : (H : Type) → List (DataW H) → Bool := fun _ ds => decide (uptoBulkAll ds ≤ 1048576)
def OpenSpec.upto (s : _root_.Go.ChangeSpec) : _root_.Go.OpenSpec := { _root_.Go.OpenSpec.ofChange s with cond := some uptoSmall }

/-- 'murmurationlaw26.BuilderPlays', WHERE WHAT IT READS IS OF BULK AT MOST 1048576: true; the input reads as it did. -/
def builderPlaysUptoRow : OpenClaim := { program := "ytidhohnhhhooaaa", sum := "77a4ff2c1563dcf728890147fc2ac8f61378913b46da907ed03017a6ca075017", func := "murmuration/murmurationlaw26.BuilderPlays", spec := "builderPlays", apart := false, narrowed := true }
def BuilderPlaysUptoSaid : Prop := builderPlaysUptoRow.holds Try.pinned (OpenSpec.upto builderPlaysSpec)

/-- 'murmurationlaw26.BuilderEnds', WHERE WHAT IT READS IS OF BULK AT MOST 1048576: true; the input reads as it did. -/
def builderEndsUptoRow : OpenClaim := { program := "ytidhohnhhhooaaa", sum := "77a4ff2c1563dcf728890147fc2ac8f61378913b46da907ed03017a6ca075017", func := "murmuration/murmurationlaw26.BuilderEnds", spec := "builderEnds", apart := false, narrowed := true }
def BuilderEndsUptoSaid : Prop := builderEndsUptoRow.holds Try.pinned (OpenSpec.upto builderEndsSpec)

/-- 'murmurationlaw26.BuilderOnce', WHERE WHAT IT READS IS OF BULK AT MOST 1048576: true; the input reads as it did. -/
def builderOnceUptoRow : OpenClaim := { program := "ytidhohnhhhooaaa", sum := "77a4ff2c1563dcf728890147fc2ac8f61378913b46da907ed03017a6ca075017", func := "murmuration/murmurationlaw26.BuilderOnce", spec := "builderOnce", apart := false, narrowed := true }
def BuilderOnceUptoSaid : Prop := builderOnceUptoRow.holds Try.pinned (OpenSpec.upto builderOnceSpec)

/-- 'murmurationlaw26.BuilderWaits', WHERE WHAT IT READS IS OF BULK AT MOST 1048576: true; the input reads as it did. -/
def builderWaitsUptoRow : OpenClaim := { program := "ytidhohnhhhooaaa", sum := "77a4ff2c1563dcf728890147fc2ac8f61378913b46da907ed03017a6ca075017", func := "murmuration/murmurationlaw26.BuilderWaits", spec := "builderWaits", apart := false, narrowed := true }
def BuilderWaitsUptoSaid : Prop := builderWaitsUptoRow.holds Try.pinned (OpenSpec.upto builderWaitsSpec)

end Rows
end Go.Proofs.Ytidhohnhhhooaaa
