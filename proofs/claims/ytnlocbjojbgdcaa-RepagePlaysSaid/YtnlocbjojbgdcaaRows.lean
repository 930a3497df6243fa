/-
  No cell of these rows narrows 'for every input' (looked for: loops, veiled, ifaces, maps, wideKeys, modest, calm, conditions, laid).
  DERIVED. THE GIVEN ROWS OF THIS SEAT. 5 by the template 'for every input the law returns true; each argument reads behind the call as it read before'; 0 by the template 'total and deterministic' (their statements: YtnlocbjojbgdcaaTotals.lean).
  GIVEN WITH THE SEED: the statements are not yours to turn. If you find one false, say at which input.
  Laid BY PROGRAM, IN A SANDBOX (cutbox-rows.mjs): the forced cells as the released guide's own fill.sh prints them over the translation 8934f36c9b800b22… (all of the seat's roots in one cut). By AI agents, Wed Nov 11 2026. No macro, syntax, notation, axiom, sorry.
-/
import Derived.Test.YtnlocbjojbgdcaaChecked
import GoSem.Claim
import GoSem.ClaimJoined
import GoSem.ClaimMapViews
import Derived.JoinedTies
import Derived.KernelRfl
namespace Go.Proofs.Ytnlocbjojbgdcaa
/- THE CELL 'sum', in the pinned program and in every row, IS THE sha256 OF THE DUMP (.gsa) THAT YtnlocbjojbgdcaaProg.lean LOADS. Nothing in Lean hashes anything: it is a label: what it is worth is what the hold of that sum in a sandbox is worth. -/
noncomputable def Try.pinned : Pinned := { name := "ytnlocbjojbgdcaa", sum := "8934f36c9b800b222e7632f3d65cb35cf0aa72a30642869459544fca72f9955b", checked := Try.checked }
namespace Rows
def none {H : Type} : Left H := { results := [], args := [] }

/-- 'regletlaw13.RepageKeeps': WHATEVER THE INPUT: true; the input reads as it did. -/
def repageKeepsSpec : ChangeSpec := { name := "repageKeeps", fn := fun _ => fun
  | [d1, d2] => { results := [.lit (.bool true)], args := [d1, d2] }
  | _ => none }
def repageKeepsRow : OpenClaim := { program := "ytnlocbjojbgdcaa", sum := "8934f36c9b800b222e7632f3d65cb35cf0aa72a30642869459544fca72f9955b", func := "reglet/regletlaw13.RepageKeeps", spec := "repageKeeps", apart := false }
def RepageKeepsSaid : Prop := repageKeepsRow.holds Try.pinned (OpenSpec.ofChange repageKeepsSpec)

/-- ITS FALSE NEIGHBOUR: 'it returns false'. Refute it at one input. -/
def repageKeepsWrong : ChangeSpec := { name := "repageKeeps", fn := fun _ => fun
  | [d1, d2] => { results := [.lit (.bool false)], args := [d1, d2] }
  | _ => none }
def RepageKeepsWrongFalsely : Prop := repageKeepsRow.holds Try.pinned (OpenSpec.ofChange repageKeepsWrong)

/-- 'regletlaw13.RepageFew': WHATEVER THE INPUT: true; the input reads as it did. -/
def repageFewSpec : ChangeSpec := { name := "repageFew", fn := fun _ => fun
  | [d1, d2] => { results := [.lit (.bool true)], args := [d1, d2] }
  | _ => none }
def repageFewRow : OpenClaim := { program := "ytnlocbjojbgdcaa", sum := "8934f36c9b800b222e7632f3d65cb35cf0aa72a30642869459544fca72f9955b", func := "reglet/regletlaw13.RepageFew", spec := "repageFew", apart := false }
def RepageFewSaid : Prop := repageFewRow.holds Try.pinned (OpenSpec.ofChange repageFewSpec)

/-- ITS FALSE NEIGHBOUR: 'it returns false'. Refute it at one input. -/
def repageFewWrong : ChangeSpec := { name := "repageFew", fn := fun _ => fun
  | [d1, d2] => { results := [.lit (.bool false)], args := [d1, d2] }
  | _ => none }
def RepageFewWrongFalsely : Prop := repageFewRow.holds Try.pinned (OpenSpec.ofChange repageFewWrong)

/-- 'regletlaw13.RepageBegins': WHATEVER THE INPUT: true; the input reads as it did. -/
def repageBeginsSpec : ChangeSpec := { name := "repageBegins", fn := fun _ => fun
  | [d] => { results := [.lit (.bool true)], args := [d] }
  | _ => none }
def repageBeginsRow : OpenClaim := { program := "ytnlocbjojbgdcaa", sum := "8934f36c9b800b222e7632f3d65cb35cf0aa72a30642869459544fca72f9955b", func := "reglet/regletlaw13.RepageBegins", spec := "repageBegins", apart := false }
def RepageBeginsSaid : Prop := repageBeginsRow.holds Try.pinned (OpenSpec.ofChange repageBeginsSpec)

/-- ITS FALSE NEIGHBOUR: 'it returns false'. Refute it at one input. -/
def repageBeginsWrong : ChangeSpec := { name := "repageBegins", fn := fun _ => fun
  | [d] => { results := [.lit (.bool false)], args := [d] }
  | _ => none }
def RepageBeginsWrongFalsely : Prop := repageBeginsRow.holds Try.pinned (OpenSpec.ofChange repageBeginsWrong)

/-- 'regletlaw13.RepageBack': WHATEVER THE INPUT: true; the input reads as it did. -/
def repageBackSpec : ChangeSpec := { name := "repageBack", fn := fun _ => fun
  | [d1, d2] => { results := [.lit (.bool true)], args := [d1, d2] }
  | _ => none }
def repageBackRow : OpenClaim := { program := "ytnlocbjojbgdcaa", sum := "8934f36c9b800b222e7632f3d65cb35cf0aa72a30642869459544fca72f9955b", func := "reglet/regletlaw13.RepageBack", spec := "repageBack", apart := false }
def RepageBackSaid : Prop := repageBackRow.holds Try.pinned (OpenSpec.ofChange repageBackSpec)

/-- ITS FALSE NEIGHBOUR: 'it returns false'. Refute it at one input. -/
def repageBackWrong : ChangeSpec := { name := "repageBack", fn := fun _ => fun
  | [d1, d2] => { results := [.lit (.bool false)], args := [d1, d2] }
  | _ => none }
def RepageBackWrongFalsely : Prop := repageBackRow.holds Try.pinned (OpenSpec.ofChange repageBackWrong)

/-- 'regletlaw13.RepagePlays': WHATEVER THE INPUT: true; the input reads as it did. -/
def repagePlaysSpec : ChangeSpec := { name := "repagePlays", fn := fun _ => fun
  | [d1, d2] => { results := [.lit (.bool true)], args := [d1, d2] }
  | _ => none }
def repagePlaysRow : OpenClaim := { program := "ytnlocbjojbgdcaa", sum := "8934f36c9b800b222e7632f3d65cb35cf0aa72a30642869459544fca72f9955b", func := "reglet/regletlaw13.RepagePlays", spec := "repagePlays", apart := false }
def RepagePlaysSaid : Prop := repagePlaysRow.holds Try.pinned (OpenSpec.ofChange repagePlaysSpec)

/-- ITS FALSE NEIGHBOUR: 'it returns false'. Refute it at one input. -/
def repagePlaysWrong : ChangeSpec := { name := "repagePlays", fn := fun _ => fun
  | [d1, d2] => { results := [.lit (.bool false)], args := [d1, d2] }
  | _ => none }
def RepagePlaysWrongFalsely : Prop := repagePlaysRow.holds Try.pinned (OpenSpec.ofChange repagePlaysWrong)

/- THE SECOND FORM. 'bulk': how many values and letters a reading holds, each counted each time it is reached (what is shared counts as often as it is met; a slice's spare places count too). A statement '..UptoSaid' is the law's where the arguments, and the package variables that the reading takes, are together of bulk at most 1048576: NARROWER than '..Said'. Prove '..Said' where nothing that the law and all that it calls make is longer than what came in: it says more and counts as full. Else prove '..UptoSaid'. A law counts once. -/
mutual
def uptoBulk {H : Type} : DataW H → Nat
  | .lit (.string bytes) => bytes.length + 1
  | .lit _ => 1
  | .nil => 1
  | .ptr d => uptoBulk d + 1
  | .slice elems spare => uptoBulkAll elems + uptoBulkAll spare + 1
  | .agg parts => uptoBulkAll parts + 1
  | .iface _ d => uptoBulk d + 1
  | .map entries => uptoBulkEntries entries + 1
  | .held _ => 1
def uptoBulkAll {H : Type} : List (DataW H) → Nat
  | [] => 0
  | d :: r => uptoBulk d + uptoBulkAll r
def uptoBulkEntries {H : Type} : List (Lit × DataW H) → Nat
  | [] => 0
  | x :: r => uptoBulkEntry x + uptoBulkEntries r
def uptoBulkEntry {H : Type} : Lit × DataW H → Nat
  | (.string bytes, d) => bytes.length + uptoBulk d + 1
  | (_, d) => uptoBulk d + 1
 end
def uptoSmall : (H : Type) → List (DataW H) → Bool := fun _ ds => decide (uptoBulkAll ds ≤ 1048576)
def OpenSpec.upto (s : _root_.Go.ChangeSpec) : _root_.Go.OpenSpec := { _root_.Go.OpenSpec.ofChange s with cond := some uptoSmall }

/-- 'regletlaw13.RepageKeeps', WHERE WHAT IT READS IS OF BULK AT MOST 1048576: true; the input reads as it did. -/
def repageKeepsUptoRow : OpenClaim := { program := "ytnlocbjojbgdcaa", sum := "8934f36c9b800b222e7632f3d65cb35cf0aa72a30642869459544fca72f9955b", func := "reglet/regletlaw13.RepageKeeps", spec := "repageKeeps", apart := false, narrowed := true }
def RepageKeepsUptoSaid : Prop := repageKeepsUptoRow.holds Try.pinned (OpenSpec.upto repageKeepsSpec)

/-- 'regletlaw13.RepageFew', WHERE WHAT IT READS IS OF BULK AT MOST 1048576: true; the input reads as it did. -/
def repageFewUptoRow : OpenClaim := { program := "ytnlocbjojbgdcaa", sum := "8934f36c9b800b222e7632f3d65cb35cf0aa72a30642869459544fca72f9955b", func := "reglet/regletlaw13.RepageFew", spec := "repageFew", apart := false, narrowed := true }
def RepageFewUptoSaid : Prop := repageFewUptoRow.holds Try.pinned (OpenSpec.upto repageFewSpec)

/-- 'regletlaw13.RepageBegins', WHERE WHAT IT READS IS OF BULK AT MOST 1048576: true; the input reads as it did. -/
def repageBeginsUptoRow : OpenClaim := { program := "ytnlocbjojbgdcaa", sum := "8934f36c9b800b222e7632f3d65cb35cf0aa72a30642869459544fca72f9955b", func := "reglet/regletlaw13.RepageBegins", spec := "repageBegins", apart := false, narrowed := true }
def RepageBeginsUptoSaid : Prop := repageBeginsUptoRow.holds Try.pinned (OpenSpec.upto repageBeginsSpec)

/-- 'regletlaw13.RepageBack', WHERE WHAT IT READS IS OF BULK AT MOST 1048576: true; the input reads as it did. -/
def repageBackUptoRow : OpenClaim := { program := "ytnlocbjojbgdcaa", sum := "8934f36c9b800b222e7632f3d65cb35cf0aa72a30642869459544fca72f9955b", func := "reglet/regletlaw13.RepageBack", spec := "repageBack", apart := false, narrowed := true }
def RepageBackUptoSaid : Prop := repageBackUptoRow.holds Try.pinned (OpenSpec.upto repageBackSpec)

/-- 'regletlaw13.RepagePlays', WHERE WHAT IT READS IS OF BULK AT MOST 1048576: true; the input reads as it did. -/
def repagePlaysUptoRow : OpenClaim := { program := "ytnlocbjojbgdcaa", sum := "8934f36c9b800b222e7632f3d65cb35cf0aa72a30642869459544fca72f9955b", func := "reglet/regletlaw13.RepagePlays", spec := "repagePlays", apart := false, narrowed := true }
def RepagePlaysUptoSaid : Prop := repagePlaysUptoRow.holds Try.pinned (OpenSpec.upto repagePlaysSpec)

end Rows
end Go.Proofs.Ytnlocbjojbgdcaa
