/-
  No cell of these rows narrows 'for every input' (looked for: loops, veiled, ifaces, maps, wideKeys, modest, calm, conditions, laid).
  DERIVED. THE GIVEN ROWS OF THIS SEAT. 5 by the template 'for every input the law returns true; each argument reads behind the call as it read before'; 0 by the template 'total and deterministic' (their statements: YtkkhgbcmjeaghaaTotals.lean).
  GIVEN WITH THE SEED: the statements are not yours to turn. If you find one false, say at which input.
  Laid BY PROGRAM, IN A SANDBOX (cutbox-rows.mjs): the forced cells as the released guide's own fill.sh prints them over the translation a807e4e6e82ac902… (all of the seat's roots in one cut). By AI agents, Wed Nov 11 2026. No macro, syntax, notation, axiom, sorry.
-/
import Derived.Test.YtkkhgbcmjeaghaaChecked
import GoSem.Claim
import GoSem.ClaimJoined
import GoSem.ClaimMapViews
import Derived.JoinedTies
import Derived.KernelRfl
namespace Go.Proofs.Ytkkhgbcmjeaghaa
/- THE CELL 'sum', in the pinned program and in every row, IS THE sha256 OF THE DUMP (.gsa) THAT YtkkhgbcmjeaghaaProg.lean LOADS. Nothing in Lean hashes anything: it is a label: what it is worth is what the hold of that sum in a sandbox is worth. -/
noncomputable def Try.pinned : Pinned := { name := "ytkkhgbcmjeaghaa", sum := "a807e4e6e82ac90276459a3b88de766e3c9f1287f47943e0e7a829e8e5e48950", checked := Try.checked }
namespace Rows
def none {H : Type} : Left H := { results := [], args := [] }

/-- 'regletlaw07.ItemsBuilds': WHATEVER THE INPUT: true; the input reads as it did. -/
def itemsBuildsSpec : ChangeSpec := { name := "itemsBuilds", fn := fun _ => fun
  | [d1, d2, d3] => { results := [.lit (.bool true)], args := [d1, d2, d3] }
  | _ => none }
def itemsBuildsRow : OpenClaim := { program := "ytkkhgbcmjeaghaa", sum := "a807e4e6e82ac90276459a3b88de766e3c9f1287f47943e0e7a829e8e5e48950", func := "reglet/regletlaw07.ItemsBuilds", spec := "itemsBuilds", apart := false }
def ItemsBuildsSaid : Prop := itemsBuildsRow.holds Try.pinned (OpenSpec.ofChange itemsBuildsSpec)

/-- ITS FALSE NEIGHBOUR: 'it returns false'. Refute it at one input. -/
def itemsBuildsWrong : ChangeSpec := { name := "itemsBuilds", fn := fun _ => fun
  | [d1, d2, d3] => { results := [.lit (.bool false)], args := [d1, d2, d3] }
  | _ => none }
def ItemsBuildsWrongFalsely : Prop := itemsBuildsRow.holds Try.pinned (OpenSpec.ofChange itemsBuildsWrong)

/-- 'regletlaw07.ItemsWhole': WHATEVER THE INPUT: true; the input reads as it did. -/
def itemsWholeSpec : ChangeSpec := { name := "itemsWhole", fn := fun _ => fun
  | [d1, d2, d3] => { results := [.lit (.bool true)], args := [d1, d2, d3] }
  | _ => none }
def itemsWholeRow : OpenClaim := { program := "ytkkhgbcmjeaghaa", sum := "a807e4e6e82ac90276459a3b88de766e3c9f1287f47943e0e7a829e8e5e48950", func := "reglet/regletlaw07.ItemsWhole", spec := "itemsWhole", apart := false }
def ItemsWholeSaid : Prop := itemsWholeRow.holds Try.pinned (OpenSpec.ofChange itemsWholeSpec)

/-- ITS FALSE NEIGHBOUR: 'it returns false'. Refute it at one input. -/
def itemsWholeWrong : ChangeSpec := { name := "itemsWhole", fn := fun _ => fun
  | [d1, d2, d3] => { results := [.lit (.bool false)], args := [d1, d2, d3] }
  | _ => none }
def ItemsWholeWrongFalsely : Prop := itemsWholeRow.holds Try.pinned (OpenSpec.ofChange itemsWholeWrong)

/-- 'regletlaw07.ItemsRight': WHATEVER THE INPUT: true; the input reads as it did. -/
def itemsRightSpec : ChangeSpec := { name := "itemsRight", fn := fun _ => fun
  | [d] => { results := [.lit (.bool true)], args := [d] }
  | _ => none }
def itemsRightRow : OpenClaim := { program := "ytkkhgbcmjeaghaa", sum := "a807e4e6e82ac90276459a3b88de766e3c9f1287f47943e0e7a829e8e5e48950", func := "reglet/regletlaw07.ItemsRight", spec := "itemsRight", apart := false }
def ItemsRightSaid : Prop := itemsRightRow.holds Try.pinned (OpenSpec.ofChange itemsRightSpec)

/-- ITS FALSE NEIGHBOUR: 'it returns false'. Refute it at one input. -/
def itemsRightWrong : ChangeSpec := { name := "itemsRight", fn := fun _ => fun
  | [d] => { results := [.lit (.bool false)], args := [d] }
  | _ => none }
def ItemsRightWrongFalsely : Prop := itemsRightRow.holds Try.pinned (OpenSpec.ofChange itemsRightWrong)

/-- 'regletlaw07.ItemsJoins': WHATEVER THE INPUT: true; the input reads as it did. -/
def itemsJoinsSpec : ChangeSpec := { name := "itemsJoins", fn := fun _ => fun
  | [d1, d2, d3] => { results := [.lit (.bool true)], args := [d1, d2, d3] }
  | _ => none }
def itemsJoinsRow : OpenClaim := { program := "ytkkhgbcmjeaghaa", sum := "a807e4e6e82ac90276459a3b88de766e3c9f1287f47943e0e7a829e8e5e48950", func := "reglet/regletlaw07.ItemsJoins", spec := "itemsJoins", apart := false }
def ItemsJoinsSaid : Prop := itemsJoinsRow.holds Try.pinned (OpenSpec.ofChange itemsJoinsSpec)

/-- ITS FALSE NEIGHBOUR: 'it returns false'. Refute it at one input. -/
def itemsJoinsWrong : ChangeSpec := { name := "itemsJoins", fn := fun _ => fun
  | [d1, d2, d3] => { results := [.lit (.bool false)], args := [d1, d2, d3] }
  | _ => none }
def ItemsJoinsWrongFalsely : Prop := itemsJoinsRow.holds Try.pinned (OpenSpec.ofChange itemsJoinsWrong)

/-- 'regletlaw07.ItemsEnds': WHATEVER THE INPUT: true; the input reads as it did. -/
def itemsEndsSpec : ChangeSpec := { name := "itemsEnds", fn := fun _ => fun
  | [d1, d2] => { results := [.lit (.bool true)], args := [d1, d2] }
  | _ => none }
def itemsEndsRow : OpenClaim := { program := "ytkkhgbcmjeaghaa", sum := "a807e4e6e82ac90276459a3b88de766e3c9f1287f47943e0e7a829e8e5e48950", func := "reglet/regletlaw07.ItemsEnds", spec := "itemsEnds", apart := false }
def ItemsEndsSaid : Prop := itemsEndsRow.holds Try.pinned (OpenSpec.ofChange itemsEndsSpec)

/-- ITS FALSE NEIGHBOUR: 'it returns false'. Refute it at one input. -/
def itemsEndsWrong : ChangeSpec := { name := "itemsEnds", fn := fun _ => fun
  | [d1, d2] => { results := [.lit (.bool false)], args := [d1, d2] }
  | _ => none }
def ItemsEndsWrongFalsely : Prop := itemsEndsRow.holds Try.pinned (OpenSpec.ofChange itemsEndsWrong)

/- THE SECOND FORM. 'bulk': how many values and letters a reading holds, each counted each time it is reached (what is shared counts as often as it is met; a slice's spare places count too). A statement '..UptoSaid' is the law's where the arguments, and the package variables that the reading takes, are together of bulk at most 1048576: NARROWER than '..Said'. Prove '..Said' where nothing that the law and all that it calls make is longer than what came in: it says more and counts as full. Else prove '..UptoSaid'. A law counts once. -/
mutual
def uptoBulk {H : Type} : DataW H → Nat
  | .lit (.string bytes) => bytes.length + 1
  | .lit _ => 1
  | .nil => 1
  | .ptr d => uptoBulk d + 1
  | .slice elems spare => uptoBulkAll elems + uptoBulkAll spare + 1
  | .agg parts => uptoBulkAll parts + 1
  | .iface _ d => uptoBulk d + 1
  | .map entries => uptoBulkEntries entries + 1
  | .held _ => 1
def uptoBulkAll {H : Type} : List (DataW H) → Nat
  | [] => 0
  | d :: r => uptoBulk d + uptoBulkAll r
def uptoBulkEntries {H : Type} : List (Lit × DataW H) → Nat
  | [] => 0
  | x :: r => uptoBulkEntry x + uptoBulkEntries r
def uptoBulkEntry {H : Type} : Lit × DataW H → Nat
  | (.string bytes, d) => bytes.length + uptoBulk d + 1
  | (_, d) => uptoBulk d + 1
 end
def uptoSmall : (H : Type) → List (DataW H) → Bool := fun _ ds => decide (uptoBulkAll ds ≤ 1048576)
def OpenSpec.upto (s : _root_.Go.ChangeSpec) : _root_.Go.OpenSpec := { _root_.Go.OpenSpec.ofChange s with cond := some uptoSmall }

/-- 'regletlaw07.ItemsBuilds', WHERE WHAT IT READS IS OF BULK AT MOST 1048576: true; the input reads as it did. -/
def itemsBuildsUptoRow : OpenClaim := { program := "ytkkhgbcmjeaghaa", sum := "a807e4e6e82ac90276459a3b88de766e3c9f1287f47943e0e7a829e8e5e48950", func := "reglet/regletlaw07.ItemsBuilds", spec := "itemsBuilds", apart := false, narrowed := true }
def ItemsBuildsUptoSaid : Prop := itemsBuildsUptoRow.holds Try.pinned (OpenSpec.upto itemsBuildsSpec)

/-- 'regletlaw07.ItemsWhole', WHERE WHAT IT READS IS OF BULK AT MOST 1048576: true; the input reads as it did. -/
def itemsWholeUptoRow : OpenClaim := { program := "ytkkhgbcmjeaghaa", sum := "a807e4e6e82ac90276459a3b88de766e3c9f1287f47943e0e7a829e8e5e48950", func := "reglet/regletlaw07.ItemsWhole", spec := "itemsWhole", apart := false, narrowed := true }
def ItemsWholeUptoSaid : Prop := itemsWholeUptoRow.holds Try.pinned (OpenSpec.upto itemsWholeSpec)

/-- 'regletlaw07.ItemsRight', WHERE WHAT IT READS IS OF BULK AT MOST 1048576: true; the input reads as it did. -/
def itemsRightUptoRow : OpenClaim := { program := "ytkkhgbcmjeaghaa", sum := "a807e4e6e82ac90276459a3b88de766e3c9f1287f47943e0e7a829e8e5e48950", func := "reglet/regletlaw07.ItemsRight", spec := "itemsRight", apart := false, narrowed := true }
def ItemsRightUptoSaid : Prop := itemsRightUptoRow.holds Try.pinned (OpenSpec.upto itemsRightSpec)

/-- 'regletlaw07.ItemsJoins', WHERE WHAT IT READS IS OF BULK AT MOST 1048576: true; the input reads as it did. -/
def itemsJoinsUptoRow : OpenClaim := { program := "ytkkhgbcmjeaghaa", sum := "a807e4e6e82ac90276459a3b88de766e3c9f1287f47943e0e7a829e8e5e48950", func := "reglet/regletlaw07.ItemsJoins", spec := "itemsJoins", apart := false, narrowed := true }
def ItemsJoinsUptoSaid : Prop := itemsJoinsUptoRow.holds Try.pinned (OpenSpec.upto itemsJoinsSpec)

/-- 'regletlaw07.ItemsEnds', WHERE WHAT IT READS IS OF BULK AT MOST 1048576: true; the input reads as it did. -/
def itemsEndsUptoRow : OpenClaim := { program := "ytkkhgbcmjeaghaa", sum := "a807e4e6e82ac90276459a3b88de766e3c9f1287f47943e0e7a829e8e5e48950", func := "reglet/regletlaw07.ItemsEnds", spec := "itemsEnds", apart := false, narrowed := true }
def ItemsEndsUptoSaid : Prop := itemsEndsUptoRow.holds Try.pinned (OpenSpec.upto itemsEndsSpec)

end Rows
end Go.Proofs.Ytkkhgbcmjeaghaa
