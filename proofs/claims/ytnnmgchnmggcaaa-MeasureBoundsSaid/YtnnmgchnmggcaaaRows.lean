/-
  No cell of these rows narrows 'for every input' (looked for: loops, veiled, ifaces, maps, wideKeys, modest, calm, conditions, laid).
  DERIVED. THE GIVEN ROWS OF THIS SEAT. 3 by the template 'for every input the law returns true; each argument reads behind the call as it read before'; 0 by the template 'total and deterministic' (their statements: YtnnmgchnmggcaaaTotals.lean).
  GIVEN WITH THE SEED: the statements are not yours to turn. If you find one false, say at which input.
  Laid BY PROGRAM, IN A SANDBOX (cutbox-rows.mjs): the forced cells as the released guide's own fill.sh prints them over the translation c83add80efb4d4d3… (all of the seat's roots in one cut). By AI agents, Wed Nov 11 2026. No macro, syntax, notation, axiom, sorry.
-/
import Derived.Test.YtnnmgchnmggcaaaChecked
import GoSem.Claim
import GoSem.ClaimJoined
import GoSem.ClaimMapViews
import Derived.JoinedTies
import Derived.KernelRfl
namespace Go.Proofs.Ytnnmgchnmggcaaa
/- THE CELL 'sum', in the pinned program and in every row, IS THE sha256 OF THE DUMP (.gsa) THAT YtnnmgchnmggcaaaProg.lean LOADS. Nothing in Lean hashes anything: it is a label: what it is worth is what the hold of that sum in a sandbox is worth. -/
noncomputable def Try.pinned : Pinned := { name := "ytnnmgchnmggcaaa", sum := "c83add80efb4d4d385c15d67950da25d4aa2cfa6d42c8e19de6a34edd845ccd1", checked := Try.checked }
namespace Rows
def none {H : Type} : Left H := { results := [], args := [] }

/-- 'regletlaw08.MeasureFits': WHATEVER THE INPUT: true; the input reads as it did. -/
def measureFitsSpec : ChangeSpec := { name := "measureFits", fn := fun _ => fun
  | [d1, d2, d3] => { results := [.lit (.bool true)], args := [d1, d2, d3] }
  | _ => none }
def measureFitsRow : OpenClaim := { program := "ytnnmgchnmggcaaa", sum := "c83add80efb4d4d385c15d67950da25d4aa2cfa6d42c8e19de6a34edd845ccd1", func := "reglet/regletlaw08.MeasureFits", spec := "measureFits", inPlace := ["math/bits.Add64"], apart := false }
def MeasureFitsSaid : Prop := measureFitsRow.holds Try.pinned (OpenSpec.ofChange measureFitsSpec)

/-- ITS FALSE NEIGHBOUR: 'it returns false'. Refute it at one input. -/
def measureFitsWrong : ChangeSpec := { name := "measureFits", fn := fun _ => fun
  | [d1, d2, d3] => { results := [.lit (.bool false)], args := [d1, d2, d3] }
  | _ => none }
def MeasureFitsWrongFalsely : Prop := measureFitsRow.holds Try.pinned (OpenSpec.ofChange measureFitsWrong)

/-- 'regletlaw08.MeasureLines': WHATEVER THE INPUT: true; the input reads as it did. -/
def measureLinesSpec : ChangeSpec := { name := "measureLines", fn := fun _ => fun
  | [d1, d2, d3] => { results := [.lit (.bool true)], args := [d1, d2, d3] }
  | _ => none }
def measureLinesRow : OpenClaim := { program := "ytnnmgchnmggcaaa", sum := "c83add80efb4d4d385c15d67950da25d4aa2cfa6d42c8e19de6a34edd845ccd1", func := "reglet/regletlaw08.MeasureLines", spec := "measureLines", inPlace := ["math/bits.Add64"], apart := false }
def MeasureLinesSaid : Prop := measureLinesRow.holds Try.pinned (OpenSpec.ofChange measureLinesSpec)

/-- ITS FALSE NEIGHBOUR: 'it returns false'. Refute it at one input. -/
def measureLinesWrong : ChangeSpec := { name := "measureLines", fn := fun _ => fun
  | [d1, d2, d3] => { results := [.lit (.bool false)], args := [d1, d2, d3] }
  | _ => none }
def MeasureLinesWrongFalsely : Prop := measureLinesRow.holds Try.pinned (OpenSpec.ofChange measureLinesWrong)

/-- 'regletlaw08.MeasureBounds': WHATEVER THE INPUT: true; the input reads as it did. -/
def measureBoundsSpec : ChangeSpec := { name := "measureBounds", fn := fun _ => fun
  | [d1, d2, d3] => { results := [.lit (.bool true)], args := [d1, d2, d3] }
  | _ => none }
def measureBoundsRow : OpenClaim := { program := "ytnnmgchnmggcaaa", sum := "c83add80efb4d4d385c15d67950da25d4aa2cfa6d42c8e19de6a34edd845ccd1", func := "reglet/regletlaw08.MeasureBounds", spec := "measureBounds", inPlace := ["math/bits.Add64"], apart := false }
def MeasureBoundsSaid : Prop := measureBoundsRow.holds Try.pinned (OpenSpec.ofChange measureBoundsSpec)

/-- ITS FALSE NEIGHBOUR: 'it returns false'. Refute it at one input. -/
def measureBoundsWrong : ChangeSpec := { name := "measureBounds", fn := fun _ => fun
  | [d1, d2, d3] => { results := [.lit (.bool false)], args := [d1, d2, d3] }
  | _ => none }
def MeasureBoundsWrongFalsely : Prop := measureBoundsRow.holds Try.pinned (OpenSpec.ofChange measureBoundsWrong)

/- THE SECOND FORM. 'bulk': how many values and letters a reading holds, each counted each time it is reached (what is shared counts as often as it is met; a slice's spare places count too). A statement '..UptoSaid' is the law's where the arguments, and the package variables that the reading takes, are together of bulk at most 1048576: NARROWER than '..Said'. Prove '..Said' where nothing that the law and all that it calls make is longer than what came in: it says more and counts as full. Else prove '..UptoSaid'. A law counts once. -/
mutual
def uptoBulk {H : Type} : DataW H → Nat
  | .lit (.string bytes) => bytes.length + 1
  | .lit _ => 1
  | .nil => 1
  | .ptr d => uptoBulk d + 1
  | .slice elems spare => uptoBulkAll elems + uptoBulkAll spare + 1
  | .agg parts => uptoBulkAll parts + 1
  | .iface _ d => uptoBulk d + 1
  | .map entries => uptoBulkEntries entries + 1
  | .held _ => 1
def uptoBulkAll {H : Type} : List (DataW H) → Nat
  | [] => 0
  | d :: r => uptoBulk d + uptoBulkAll r
def uptoBulkEntries {H : Type} : List (Lit × DataW H) → Nat
  | [] => 0
  | x :: r => uptoBulkEntry x + uptoBulkEntries r
def uptoBulkEntry {H : Type} : Lit × DataW H → Nat
  | (.string bytes, d) => bytes.length + uptoBulk d + 1
  | (_, d) => uptoBulk d + 1
 end
def uptoSmall : (H : Type) → List (DataW H) → Bool := fun _ ds => decide (uptoBulkAll ds ≤ 1048576)
def OpenSpec.upto (s : _root_.Go.ChangeSpec) : _root_.Go.OpenSpec := { _root_.Go.OpenSpec.ofChange s with cond := some uptoSmall }

/-- 'regletlaw08.MeasureFits', WHERE WHAT IT READS IS OF BULK AT MOST 1048576: true; the input reads as it did. -/
def measureFitsUptoRow : OpenClaim := { program := "ytnnmgchnmggcaaa", sum := "c83add80efb4d4d385c15d67950da25d4aa2cfa6d42c8e19de6a34edd845ccd1", func := "reglet/regletlaw08.MeasureFits", spec := "measureFits", inPlace := ["math/bits.Add64"], apart := false, narrowed := true }
def MeasureFitsUptoSaid : Prop := measureFitsUptoRow.holds Try.pinned (OpenSpec.upto measureFitsSpec)

/-- 'regletlaw08.MeasureLines', WHERE WHAT IT READS IS OF BULK AT MOST 1048576: true; the input reads as it did. -/
def measureLinesUptoRow : OpenClaim := { program := "ytnnmgchnmggcaaa", sum := "c83add80efb4d4d385c15d67950da25d4aa2cfa6d42c8e19de6a34edd845ccd1", func := "reglet/regletlaw08.MeasureLines", spec := "measureLines", inPlace := ["math/bits.Add64"], apart := false, narrowed := true }
def MeasureLinesUptoSaid : Prop := measureLinesUptoRow.holds Try.pinned (OpenSpec.upto measureLinesSpec)

/-- 'regletlaw08.MeasureBounds', WHERE WHAT IT READS IS OF BULK AT MOST 1048576: true; the input reads as it did. -/
def measureBoundsUptoRow : OpenClaim := { program := "ytnnmgchnmggcaaa", sum := "c83add80efb4d4d385c15d67950da25d4aa2cfa6d42c8e19de6a34edd845ccd1", func := "reglet/regletlaw08.MeasureBounds", spec := "measureBounds", inPlace := ["math/bits.Add64"], apart := false, narrowed := true }
def MeasureBoundsUptoSaid : Prop := measureBoundsUptoRow.holds Try.pinned (OpenSpec.upto measureBoundsSpec)

end Rows
end Go.Proofs.Ytnnmgchnmggcaaa
