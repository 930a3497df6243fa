/-
  No cell of these rows narrows 'for every input' (looked for: loops, veiled, ifaces, maps, wideKeys, modest, calm, conditions, laid).
  DERIVED. THE GIVEN ROWS OF THIS SEAT. 8 by the template 'for every input the law returns true; each argument reads behind the call as it read before'; 0 by the template 'total and deterministic' (their statements: YtpnodmiincdljaaTotals.lean).
  GIVEN WITH THE SEED: the statements are not yours to turn. If you find one false, say at which input.
  Laid BY PROGRAM, IN A SANDBOX (cutbox-rows.mjs): the forced cells as the released guide's own fill.sh prints them over the translation 1069aa8bb3bfba44… (all of the seat's roots in one cut). By AI agents, Wed Nov 11 2026. No macro, syntax, notation, axiom, sorry.
-/
import Derived.Test.YtpnodmiincdljaaChecked
import GoSem.Claim
import GoSem.ClaimJoined
import GoSem.ClaimMapViews
import Derived.JoinedTies
import Derived.KernelRfl
namespace Go.Proofs.Ytpnodmiincdljaa
/- THE CELL 'sum', in the pinned program and in every row, IS THE sha256 OF THE DUMP (.gsa) THAT YtpnodmiincdljaaProg.lean LOADS. Nothing in Lean hashes anything: it is a label: what it is worth is what the hold of that sum in a sandbox is worth. -/
noncomputable def Try.pinned : Pinned := { name := "ytpnodmiincdljaa", sum := "1069aa8bb3bfba4428176c15c347428aa1c8440478a7f298166df155a4161c5a", checked := Try.checked }
namespace Rows
def none {H : Type} : Left H := { results := [], args := [] }

/-- 'regletlaw09.BreaksBest': WHATEVER THE INPUT: true; the input reads as it did. -/
def breaksBestSpec : ChangeSpec := { name := "breaksBest", fn := fun _ => fun
  | [d1, d2, d3] => { results := [.lit (.bool true)], args := [d1, d2, d3] }
  | _ => none }
def breaksBestRow : OpenClaim := { program := "ytpnodmiincdljaa", sum := "1069aa8bb3bfba4428176c15c347428aa1c8440478a7f298166df155a4161c5a", func := "reglet/regletlaw09.BreaksBest", spec := "breaksBest", inPlace := ["math/bits.Add64"], recurses := true, apart := false }
def BreaksBestSaid : Prop := breaksBestRow.holds Try.pinned (OpenSpec.ofChange breaksBestSpec)

/-- ITS FALSE NEIGHBOUR: 'it returns false'. Refute it at one input. -/
def breaksBestWrong : ChangeSpec := { name := "breaksBest", fn := fun _ => fun
  | [d1, d2, d3] => { results := [.lit (.bool false)], args := [d1, d2, d3] }
  | _ => none }
def BreaksBestWrongFalsely : Prop := breaksBestRow.holds Try.pinned (OpenSpec.ofChange breaksBestWrong)

/-- 'regletlaw09.BreaksLong': WHATEVER THE INPUT: true; the input reads as it did. -/
def breaksLongSpec : ChangeSpec := { name := "breaksLong", fn := fun _ => fun
  | [d1, d2, d3] => { results := [.lit (.bool true)], args := [d1, d2, d3] }
  | _ => none }
def breaksLongRow : OpenClaim := { program := "ytpnodmiincdljaa", sum := "1069aa8bb3bfba4428176c15c347428aa1c8440478a7f298166df155a4161c5a", func := "reglet/regletlaw09.BreaksLong", spec := "breaksLong", inPlace := ["math/bits.Add64"], recurses := true, apart := false }
def BreaksLongSaid : Prop := breaksLongRow.holds Try.pinned (OpenSpec.ofChange breaksLongSpec)

/-- ITS FALSE NEIGHBOUR: 'it returns false'. Refute it at one input. -/
def breaksLongWrong : ChangeSpec := { name := "breaksLong", fn := fun _ => fun
  | [d1, d2, d3] => { results := [.lit (.bool false)], args := [d1, d2, d3] }
  | _ => none }
def BreaksLongWrongFalsely : Prop := breaksLongRow.holds Try.pinned (OpenSpec.ofChange breaksLongWrong)

/-- 'regletlaw09.BreaksPriced': WHATEVER THE INPUT: true; the input reads as it did. -/
def breaksPricedSpec : ChangeSpec := { name := "breaksPriced", fn := fun _ => fun
  | [d1, d2, d3] => { results := [.lit (.bool true)], args := [d1, d2, d3] }
  | _ => none }
def breaksPricedRow : OpenClaim := { program := "ytpnodmiincdljaa", sum := "1069aa8bb3bfba4428176c15c347428aa1c8440478a7f298166df155a4161c5a", func := "reglet/regletlaw09.BreaksPriced", spec := "breaksPriced", inPlace := ["math/bits.Add64"], apart := false }
def BreaksPricedSaid : Prop := breaksPricedRow.holds Try.pinned (OpenSpec.ofChange breaksPricedSpec)

/-- ITS FALSE NEIGHBOUR: 'it returns false'. Refute it at one input. -/
def breaksPricedWrong : ChangeSpec := { name := "breaksPriced", fn := fun _ => fun
  | [d1, d2, d3] => { results := [.lit (.bool false)], args := [d1, d2, d3] }
  | _ => none }
def BreaksPricedWrongFalsely : Prop := breaksPricedRow.holds Try.pinned (OpenSpec.ofChange breaksPricedWrong)

/-- 'regletlaw09.BreaksLeast': WHATEVER THE INPUT: true; the input reads as it did. -/
def breaksLeastSpec : ChangeSpec := { name := "breaksLeast", fn := fun _ => fun
  | [d1, d2, d3] => { results := [.lit (.bool true)], args := [d1, d2, d3] }
  | _ => none }
def breaksLeastRow : OpenClaim := { program := "ytpnodmiincdljaa", sum := "1069aa8bb3bfba4428176c15c347428aa1c8440478a7f298166df155a4161c5a", func := "reglet/regletlaw09.BreaksLeast", spec := "breaksLeast", inPlace := ["math/bits.Add64"], apart := false }
def BreaksLeastSaid : Prop := breaksLeastRow.holds Try.pinned (OpenSpec.ofChange breaksLeastSpec)

/-- ITS FALSE NEIGHBOUR: 'it returns false'. Refute it at one input. -/
def breaksLeastWrong : ChangeSpec := { name := "breaksLeast", fn := fun _ => fun
  | [d1, d2, d3] => { results := [.lit (.bool false)], args := [d1, d2, d3] }
  | _ => none }
def BreaksLeastWrongFalsely : Prop := breaksLeastRow.holds Try.pinned (OpenSpec.ofChange breaksLeastWrong)

/-- 'regletlaw09.BreaksAlways': WHATEVER THE INPUT: true; the input reads as it did. -/
def breaksAlwaysSpec : ChangeSpec := { name := "breaksAlways", fn := fun _ => fun
  | [d1, d2, d3] => { results := [.lit (.bool true)], args := [d1, d2, d3] }
  | _ => none }
def breaksAlwaysRow : OpenClaim := { program := "ytpnodmiincdljaa", sum := "1069aa8bb3bfba4428176c15c347428aa1c8440478a7f298166df155a4161c5a", func := "reglet/regletlaw09.BreaksAlways", spec := "breaksAlways", inPlace := ["math/bits.Add64"], apart := false }
def BreaksAlwaysSaid : Prop := breaksAlwaysRow.holds Try.pinned (OpenSpec.ofChange breaksAlwaysSpec)

/-- ITS FALSE NEIGHBOUR: 'it returns false'. Refute it at one input. -/
def breaksAlwaysWrong : ChangeSpec := { name := "breaksAlways", fn := fun _ => fun
  | [d1, d2, d3] => { results := [.lit (.bool false)], args := [d1, d2, d3] }
  | _ => none }
def BreaksAlwaysWrongFalsely : Prop := breaksAlwaysRow.holds Try.pinned (OpenSpec.ofChange breaksAlwaysWrong)

/-- 'regletlaw09.BreaksRefuses': WHATEVER THE INPUT: true; the input reads as it did. -/
def breaksRefusesSpec : ChangeSpec := { name := "breaksRefuses", fn := fun _ => fun
  | [d1, d2] => { results := [.lit (.bool true)], args := [d1, d2] }
  | _ => none }
def breaksRefusesRow : OpenClaim := { program := "ytpnodmiincdljaa", sum := "1069aa8bb3bfba4428176c15c347428aa1c8440478a7f298166df155a4161c5a", func := "reglet/regletlaw09.BreaksRefuses", spec := "breaksRefuses", inPlace := ["math/bits.Add64"], apart := false }
def BreaksRefusesSaid : Prop := breaksRefusesRow.holds Try.pinned (OpenSpec.ofChange breaksRefusesSpec)

/-- ITS FALSE NEIGHBOUR: 'it returns false'. Refute it at one input. -/
def breaksRefusesWrong : ChangeSpec := { name := "breaksRefuses", fn := fun _ => fun
  | [d1, d2] => { results := [.lit (.bool false)], args := [d1, d2] }
  | _ => none }
def BreaksRefusesWrongFalsely : Prop := breaksRefusesRow.holds Try.pinned (OpenSpec.ofChange breaksRefusesWrong)

/-- 'regletlaw09.BreaksTolerance': WHATEVER THE INPUT: true; the input reads as it did. -/
def breaksToleranceSpec : ChangeSpec := { name := "breaksTolerance", fn := fun _ => fun
  | [d1, d2, d3] => { results := [.lit (.bool true)], args := [d1, d2, d3] }
  | _ => none }
def breaksToleranceRow : OpenClaim := { program := "ytpnodmiincdljaa", sum := "1069aa8bb3bfba4428176c15c347428aa1c8440478a7f298166df155a4161c5a", func := "reglet/regletlaw09.BreaksTolerance", spec := "breaksTolerance", inPlace := ["math/bits.Add64"], apart := false }
def BreaksToleranceSaid : Prop := breaksToleranceRow.holds Try.pinned (OpenSpec.ofChange breaksToleranceSpec)

/-- ITS FALSE NEIGHBOUR: 'it returns false'. Refute it at one input. -/
def breaksToleranceWrong : ChangeSpec := { name := "breaksTolerance", fn := fun _ => fun
  | [d1, d2, d3] => { results := [.lit (.bool false)], args := [d1, d2, d3] }
  | _ => none }
def BreaksToleranceWrongFalsely : Prop := breaksToleranceRow.holds Try.pinned (OpenSpec.ofChange breaksToleranceWrong)

/-- 'regletlaw09.BreaksAgain': WHATEVER THE INPUT: true; the input reads as it did. -/
def breaksAgainSpec : ChangeSpec := { name := "breaksAgain", fn := fun _ => fun
  | [d1, d2, d3] => { results := [.lit (.bool true)], args := [d1, d2, d3] }
  | _ => none }
def breaksAgainRow : OpenClaim := { program := "ytpnodmiincdljaa", sum := "1069aa8bb3bfba4428176c15c347428aa1c8440478a7f298166df155a4161c5a", func := "reglet/regletlaw09.BreaksAgain", spec := "breaksAgain", inPlace := ["math/bits.Add64"], apart := false }
def BreaksAgainSaid : Prop := breaksAgainRow.holds Try.pinned (OpenSpec.ofChange breaksAgainSpec)

/-- ITS FALSE NEIGHBOUR: 'it returns false'. Refute it at one input. -/
def breaksAgainWrong : ChangeSpec := { name := "breaksAgain", fn := fun _ => fun
  | [d1, d2, d3] => { results := [.lit (.bool false)], args := [d1, d2, d3] }
  | _ => none }
def BreaksAgainWrongFalsely : Prop := breaksAgainRow.holds Try.pinned (OpenSpec.ofChange breaksAgainWrong)

/- THE SECOND FORM. 'bulk': how many values and letters a reading holds, each counted each time it is reached (what is shared counts as often as it is met; a slice's spare places count too). A statement '..UptoSaid' is the law's where the arguments, and the package variables that the reading takes, are together of bulk at most 1048576: NARROWER than '..Said'. Prove '..Said' where nothing that the law and all that it calls make is longer than what came in: it says more and counts as full. Else prove '..UptoSaid'. A law counts once. -/
mutual
def uptoBulk {H : Type} : DataW H → Nat
  | .lit (.string bytes) => bytes.length + 1
  | .lit _ => 1
  | .nil => 1
  | .ptr d => uptoBulk d + 1
  | .slice elems spare => uptoBulkAll elems + uptoBulkAll spare + 1
  | .agg parts => uptoBulkAll parts + 1
  | .iface _ d => uptoBulk d + 1
  | .map entries => uptoBulkEntries entries + 1
  | .held _ => 1
def uptoBulkAll {H : Type} : List (DataW H) → Nat
  | [] => 0
  | d :: r => uptoBulk d + uptoBulkAll r
def uptoBulkEntries {H : Type} : List (Lit × DataW H) → Nat
  | [] => 0
  | x :: r => uptoBulkEntry x + uptoBulkEntries r
def uptoBulkEntry {H : Type} : Lit × DataW H → Nat
  | (.string bytes, d) => bytes.length + uptoBulk d + 1
  | (_, d) => uptoBulk d + 1
 end
def uptoSmall : (H : Type) → List (DataW H) → Bool := fun _ ds => decide (uptoBulkAll ds ≤ 1048576)
def OpenSpec.upto (s : _root_.Go.ChangeSpec) : _root_.Go.OpenSpec := { _root_.Go.OpenSpec.ofChange s with cond := some uptoSmall }

/-- 'regletlaw09.BreaksBest', WHERE WHAT IT READS IS OF BULK AT MOST 1048576: true; the input reads as it did. -/
def breaksBestUptoRow : OpenClaim := { program := "ytpnodmiincdljaa", sum := "1069aa8bb3bfba4428176c15c347428aa1c8440478a7f298166df155a4161c5a", func := "reglet/regletlaw09.BreaksBest", spec := "breaksBest", inPlace := ["math/bits.Add64"], recurses := true, apart := false, narrowed := true }
def BreaksBestUptoSaid : Prop := breaksBestUptoRow.holds Try.pinned (OpenSpec.upto breaksBestSpec)

/-- 'regletlaw09.BreaksLong', WHERE WHAT IT READS IS OF BULK AT MOST 1048576: true; the input reads as it did. -/
def breaksLongUptoRow : OpenClaim := { program := "ytpnodmiincdljaa", sum := "1069aa8bb3bfba4428176c15c347428aa1c8440478a7f298166df155a4161c5a", func := "reglet/regletlaw09.BreaksLong", spec := "breaksLong", inPlace := ["math/bits.Add64"], recurses := true, apart := false, narrowed := true }
def BreaksLongUptoSaid : Prop := breaksLongUptoRow.holds Try.pinned (OpenSpec.upto breaksLongSpec)

/-- 'regletlaw09.BreaksPriced', WHERE WHAT IT READS IS OF BULK AT MOST 1048576: true; the input reads as it did. -/
def breaksPricedUptoRow : OpenClaim := { program := "ytpnodmiincdljaa", sum := "1069aa8bb3bfba4428176c15c347428aa1c8440478a7f298166df155a4161c5a", func := "reglet/regletlaw09.BreaksPriced", spec := "breaksPriced", inPlace := ["math/bits.Add64"], apart := false, narrowed := true }
def BreaksPricedUptoSaid : Prop := breaksPricedUptoRow.holds Try.pinned (OpenSpec.upto breaksPricedSpec)

/-- 'regletlaw09.BreaksLeast', WHERE WHAT IT READS IS OF BULK AT MOST 1048576: true; the input reads as it did. -/
def breaksLeastUptoRow : OpenClaim := { program := "ytpnodmiincdljaa", sum := "1069aa8bb3bfba4428176c15c347428aa1c8440478a7f298166df155a4161c5a", func := "reglet/regletlaw09.BreaksLeast", spec := "breaksLeast", inPlace := ["math/bits.Add64"], apart := false, narrowed := true }
def BreaksLeastUptoSaid : Prop := breaksLeastUptoRow.holds Try.pinned (OpenSpec.upto breaksLeastSpec)

/-- 'regletlaw09.BreaksAlways', WHERE WHAT IT READS IS OF BULK AT MOST 1048576: true; the input reads as it did. -/
def breaksAlwaysUptoRow : OpenClaim := { program := "ytpnodmiincdljaa", sum := "1069aa8bb3bfba4428176c15c347428aa1c8440478a7f298166df155a4161c5a", func := "reglet/regletlaw09.BreaksAlways", spec := "breaksAlways", inPlace := ["math/bits.Add64"], apart := false, narrowed := true }
def BreaksAlwaysUptoSaid : Prop := breaksAlwaysUptoRow.holds Try.pinned (OpenSpec.upto breaksAlwaysSpec)

/-- 'regletlaw09.BreaksRefuses', WHERE WHAT IT READS IS OF BULK AT MOST 1048576: true; the input reads as it did. -/
def breaksRefusesUptoRow : OpenClaim := { program := "ytpnodmiincdljaa", sum := "1069aa8bb3bfba4428176c15c347428aa1c8440478a7f298166df155a4161c5a", func := "reglet/regletlaw09.BreaksRefuses", spec := "breaksRefuses", inPlace := ["math/bits.Add64"], apart := false, narrowed := true }
def BreaksRefusesUptoSaid : Prop := breaksRefusesUptoRow.holds Try.pinned (OpenSpec.upto breaksRefusesSpec)

/-- 'regletlaw09.BreaksTolerance', WHERE WHAT IT READS IS OF BULK AT MOST 1048576: true; the input reads as it did. -/
def breaksToleranceUptoRow : OpenClaim := { program := "ytpnodmiincdljaa", sum := "1069aa8bb3bfba4428176c15c347428aa1c8440478a7f298166df155a4161c5a", func := "reglet/regletlaw09.BreaksTolerance", spec := "breaksTolerance", inPlace := ["math/bits.Add64"], apart := false, narrowed := true }
def BreaksToleranceUptoSaid : Prop := breaksToleranceUptoRow.holds Try.pinned (OpenSpec.upto breaksToleranceSpec)

/-- 'regletlaw09.BreaksAgain', WHERE WHAT IT READS IS OF BULK AT MOST 1048576: true; the input reads as it did. -/
def breaksAgainUptoRow : OpenClaim := { program := "ytpnodmiincdljaa", sum := "1069aa8bb3bfba4428176c15c347428aa1c8440478a7f298166df155a4161c5a", func := "reglet/regletlaw09.BreaksAgain", spec := "breaksAgain", inPlace := ["math/bits.Add64"], apart := false, narrowed := true }
def BreaksAgainUptoSaid : Prop := breaksAgainUptoRow.holds Try.pinned (OpenSpec.upto breaksAgainSpec)

end Rows
end Go.Proofs.Ytpnodmiincdljaa
