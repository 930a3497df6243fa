/-
  No cell of these rows narrows 'for every input' (looked for: loops, veiled, ifaces, maps, wideKeys, modest, calm, conditions, laid).
  DERIVED. THE GIVEN ROWS OF THIS SEAT. 4 by the template 'for every input the law returns true; each argument reads behind the call as it read before'; 0 by the template 'total and deterministic' (their statements: YtjbobaeggdafpaaTotals.lean).
  GIVEN WITH THE SEED: the statements are not yours to turn. If you find one false, say at which input.
  Laid BY PROGRAM, IN A SANDBOX (cutbox-rows.mjs): the forced cells as the released guide's own fill.sh prints them over the translation 0e494ecc0a64be45… (all of the seat's roots in one cut). By AI agents, Wed Nov 11 2026. No macro, syntax, notation, axiom, sorry.
-/
import Derived.Test.YtjbobaeggdafpaaChecked
import GoSem.Claim
import GoSem.ClaimJoined
import GoSem.ClaimMapViews
import Derived.JoinedTies
import Derived.KernelRfl
namespace Go.Proofs.Ytjbobaeggdafpaa
/- THE CELL 'sum', in the pinned program and in every row, IS THE sha256 OF THE DUMP (.gsa) THAT YtjbobaeggdafpaaProg.lean LOADS. Nothing in Lean hashes anything: it is a label: what it is worth is what the hold of that sum in a sandbox is worth. -/
noncomputable def Try.pinned : Pinned := { name := "ytjbobaeggdafpaa", sum := "0e494ecc0a64be45237efd7766ad3367699aa7460e025ee9ce9ca5ad52e920a9", checked := Try.checked }
namespace Rows
def none {H : Type} : Left H := { results := [], args := [] }

/-- 'regletlaw10.LinesWhole': WHATEVER THE INPUT: true; the input reads as it did. -/
def linesWholeSpec : ChangeSpec := { name := "linesWhole", fn := fun _ => fun
  | [d1, d2] => { results := [.lit (.bool true)], args := [d1, d2] }
  | _ => none }
def linesWholeRow : OpenClaim := { program := "ytjbobaeggdafpaa", sum := "0e494ecc0a64be45237efd7766ad3367699aa7460e025ee9ce9ca5ad52e920a9", func := "reglet/regletlaw10.LinesWhole", spec := "linesWhole", inPlace := ["math/bits.Add64"], apart := false }
def LinesWholeSaid : Prop := linesWholeRow.holds Try.pinned (OpenSpec.ofChange linesWholeSpec)

/-- ITS FALSE NEIGHBOUR: 'it returns false'. Refute it at one input. -/
def linesWholeWrong : ChangeSpec := { name := "linesWhole", fn := fun _ => fun
  | [d1, d2] => { results := [.lit (.bool false)], args := [d1, d2] }
  | _ => none }
def LinesWholeWrongFalsely : Prop := linesWholeRow.holds Try.pinned (OpenSpec.ofChange linesWholeWrong)

/-- 'regletlaw10.LinesSlots': WHATEVER THE INPUT: true; the input reads as it did. -/
def linesSlotsSpec : ChangeSpec := { name := "linesSlots", fn := fun _ => fun
  | [d1, d2] => { results := [.lit (.bool true)], args := [d1, d2] }
  | _ => none }
def linesSlotsRow : OpenClaim := { program := "ytjbobaeggdafpaa", sum := "0e494ecc0a64be45237efd7766ad3367699aa7460e025ee9ce9ca5ad52e920a9", func := "reglet/regletlaw10.LinesSlots", spec := "linesSlots", inPlace := ["math/bits.Add64"], apart := false }
def LinesSlotsSaid : Prop := linesSlotsRow.holds Try.pinned (OpenSpec.ofChange linesSlotsSpec)

/-- ITS FALSE NEIGHBOUR: 'it returns false'. Refute it at one input. -/
def linesSlotsWrong : ChangeSpec := { name := "linesSlots", fn := fun _ => fun
  | [d1, d2] => { results := [.lit (.bool false)], args := [d1, d2] }
  | _ => none }
def LinesSlotsWrongFalsely : Prop := linesSlotsRow.holds Try.pinned (OpenSpec.ofChange linesSlotsWrong)

/-- 'regletlaw10.LinesShown': WHATEVER THE INPUT: true; the input reads as it did. -/
def linesShownSpec : ChangeSpec := { name := "linesShown", fn := fun _ => fun
  | [d] => { results := [.lit (.bool true)], args := [d] }
  | _ => none }
def linesShownRow : OpenClaim := { program := "ytjbobaeggdafpaa", sum := "0e494ecc0a64be45237efd7766ad3367699aa7460e025ee9ce9ca5ad52e920a9", func := "reglet/regletlaw10.LinesShown", spec := "linesShown", inPlace := ["math/bits.Add64"], apart := false }
def LinesShownSaid : Prop := linesShownRow.holds Try.pinned (OpenSpec.ofChange linesShownSpec)

/-- ITS FALSE NEIGHBOUR: 'it returns false'. Refute it at one input. -/
def linesShownWrong : ChangeSpec := { name := "linesShown", fn := fun _ => fun
  | [d] => { results := [.lit (.bool false)], args := [d] }
  | _ => none }
def LinesShownWrongFalsely : Prop := linesShownRow.holds Try.pinned (OpenSpec.ofChange linesShownWrong)

/-- 'regletlaw10.LinesSame': WHATEVER THE INPUT: true; the input reads as it did. -/
def linesSameSpec : ChangeSpec := { name := "linesSame", fn := fun _ => fun
  | [d1, d2] => { results := [.lit (.bool true)], args := [d1, d2] }
  | _ => none }
def linesSameRow : OpenClaim := { program := "ytjbobaeggdafpaa", sum := "0e494ecc0a64be45237efd7766ad3367699aa7460e025ee9ce9ca5ad52e920a9", func := "reglet/regletlaw10.LinesSame", spec := "linesSame", inPlace := ["math/bits.Add64"], apart := false }
def LinesSameSaid : Prop := linesSameRow.holds Try.pinned (OpenSpec.ofChange linesSameSpec)

/-- ITS FALSE NEIGHBOUR: 'it returns false'. Refute it at one input. -/
def linesSameWrong : ChangeSpec := { name := "linesSame", fn := fun _ => fun
  | [d1, d2] => { results := [.lit (.bool false)], args := [d1, d2] }
  | _ => none }
def LinesSameWrongFalsely : Prop := linesSameRow.holds Try.pinned (OpenSpec.ofChange linesSameWrong)

/- THE SECOND FORM. 'bulk': how many values and letters a reading holds, each counted each time it is reached (what is shared counts as often as it is met; a slice's spare places count too). A statement '..UptoSaid' is the law's where the arguments, and the package variables that the reading takes, are together of bulk at most 1048576: NARROWER than '..Said'. Prove '..Said' where nothing that the law and all that it calls make is longer than what came in: it says more and counts as full. Else prove '..UptoSaid'. A law counts once. -/
mutual
def uptoBulk {H : Type} : DataW H → Nat
  | .lit (.string bytes) => bytes.length + 1
  | .lit _ => 1
  | .nil => 1
  | .ptr d => uptoBulk d + 1
  | .slice elems spare => uptoBulkAll elems + uptoBulkAll spare + 1
  | .agg parts => uptoBulkAll parts + 1
  | .iface _ d => uptoBulk d + 1
  | .map entries => uptoBulkEntries entries + 1
  | .held _ => 1
def uptoBulkAll {H : Type} : List (DataW H) → Nat
  | [] => 0
  | d :: r => uptoBulk d + uptoBulkAll r
def uptoBulkEntries {H : Type} : List (Lit × DataW H) → Nat
  | [] => 0
  | x :: r => uptoBulkEntry x + uptoBulkEntries r
def uptoBulkEntry {H : Type} : Lit × DataW H → Nat
  | (.string bytes, d) => bytes.length + uptoBulk d + 1
  | (_, d) => uptoBulk d + 1
 end
def uptoSmall : (H : Type) → List (DataW H) → Bool := fun _ ds => decide (uptoBulkAll ds ≤ 1048576)
def OpenSpec.upto (s : _root_.Go.ChangeSpec) : _root_.Go.OpenSpec := { _root_.Go.OpenSpec.ofChange s with cond := some uptoSmall }

/-- 'regletlaw10.LinesWhole', WHERE WHAT IT READS IS OF BULK AT MOST 1048576: true; the input reads as it did. -/
def linesWholeUptoRow : OpenClaim := { program := "ytjbobaeggdafpaa", sum := "0e494ecc0a64be45237efd7766ad3367699aa7460e025ee9ce9ca5ad52e920a9", func := "reglet/regletlaw10.LinesWhole", spec := "linesWhole", inPlace := ["math/bits.Add64"], apart := false, narrowed := true }
def LinesWholeUptoSaid : Prop := linesWholeUptoRow.holds Try.pinned (OpenSpec.upto linesWholeSpec)

/-- 'regletlaw10.LinesSlots', WHERE WHAT IT READS IS OF BULK AT MOST 1048576: true; the input reads as it did. -/
def linesSlotsUptoRow : OpenClaim := { program := "ytjbobaeggdafpaa", sum := "0e494ecc0a64be45237efd7766ad3367699aa7460e025ee9ce9ca5ad52e920a9", func := "reglet/regletlaw10.LinesSlots", spec := "linesSlots", inPlace := ["math/bits.Add64"], apart := false, narrowed := true }
def LinesSlotsUptoSaid : Prop := linesSlotsUptoRow.holds Try.pinned (OpenSpec.upto linesSlotsSpec)

/-- 'regletlaw10.LinesShown', WHERE WHAT IT READS IS OF BULK AT MOST 1048576: true; the input reads as it did. -/
def linesShownUptoRow : OpenClaim := { program := "ytjbobaeggdafpaa", sum := "0e494ecc0a64be45237efd7766ad3367699aa7460e025ee9ce9ca5ad52e920a9", func := "reglet/regletlaw10.LinesShown", spec := "linesShown", inPlace := ["math/bits.Add64"], apart := false, narrowed := true }
def LinesShownUptoSaid : Prop := linesShownUptoRow.holds Try.pinned (OpenSpec.upto linesShownSpec)

/-- 'regletlaw10.LinesSame', WHERE WHAT IT READS IS OF BULK AT MOST 1048576: true; the input reads as it did. -/
def linesSameUptoRow : OpenClaim := { program := "ytjbobaeggdafpaa", sum := "0e494ecc0a64be45237efd7766ad3367699aa7460e025ee9ce9ca5ad52e920a9", func := "reglet/regletlaw10.LinesSame", spec := "linesSame", inPlace := ["math/bits.Add64"], apart := false, narrowed := true }
def LinesSameUptoSaid : Prop := linesSameUptoRow.holds Try.pinned (OpenSpec.upto linesSameSpec)

end Rows
end Go.Proofs.Ytjbobaeggdafpaa
