/-
  No cell of these rows narrows 'for every input' (looked for: loops, veiled, ifaces, maps, wideKeys, modest, calm, conditions, laid).
  DERIVED. THE GIVEN ROWS OF THIS SEAT. 3 by the template 'for every input the law returns true; each argument reads behind the call as it read before'; 0 by the template 'total and deterministic' (their statements: YtepeoiimdefnpaaTotals.lean).
  GIVEN WITH THE SEED: the statements are not yours to turn. If you find one false, say at which input.
  Laid BY PROGRAM, IN A SANDBOX (cutbox-rows.mjs): the forced cells as the released guide's own fill.sh prints them over the translation 048ba1a23ba5c22d… (all of the seat's roots in one cut). By AI agents, Wed Nov 11 2026. No macro, syntax, notation, axiom, sorry.
-/
import Derived.Test.YtepeoiimdefnpaaChecked
import GoSem.Claim
import GoSem.ClaimJoined
import GoSem.ClaimMapViews
import Derived.JoinedTies
import Derived.KernelRfl
namespace Go.Proofs.Ytepeoiimdefnpaa
/- THE CELL 'sum', in the pinned program and in every row, IS THE sha256 OF THE DUMP (.gsa) THAT YtepeoiimdefnpaaProg.lean LOADS. Nothing in Lean hashes anything: it is a label: what it is worth is what the hold of that sum in a sandbox is worth. -/
noncomputable def Try.pinned : Pinned := { name := "ytepeoiimdefnpaa", sum := "048ba1a23ba5c22d66bc9a51eedcbda06b7ebc707e9e4863e791fa65b8c7bd17", checked := Try.checked }
namespace Rows
def none {H : Type} : Left H := { results := [], args := [] }

/-- 'regletlaw04.MetricsPlain': WHATEVER THE INPUT: true; the input reads as it did. -/
def metricsPlainSpec : ChangeSpec := { name := "metricsPlain", fn := fun _ => fun
  | [d1, d2] => { results := [.lit (.bool true)], args := [d1, d2] }
  | _ => none }
def metricsPlainRow : OpenClaim := { program := "ytepeoiimdefnpaa", sum := "048ba1a23ba5c22d66bc9a51eedcbda06b7ebc707e9e4863e791fa65b8c7bd17", func := "reglet/regletlaw04.MetricsPlain", spec := "metricsPlain", apart := false }
def MetricsPlainSaid : Prop := metricsPlainRow.holds Try.pinned (OpenSpec.ofChange metricsPlainSpec)

/-- ITS FALSE NEIGHBOUR: 'it returns false'. Refute it at one input. -/
def metricsPlainWrong : ChangeSpec := { name := "metricsPlain", fn := fun _ => fun
  | [d1, d2] => { results := [.lit (.bool false)], args := [d1, d2] }
  | _ => none }
def MetricsPlainWrongFalsely : Prop := metricsPlainRow.holds Try.pinned (OpenSpec.ofChange metricsPlainWrong)

/-- 'regletlaw04.MetricsTells': WHATEVER THE INPUT: true; the input reads as it did. -/
def metricsTellsSpec : ChangeSpec := { name := "metricsTells", fn := fun _ => fun
  | [d1, d2] => { results := [.lit (.bool true)], args := [d1, d2] }
  | _ => none }
def metricsTellsRow : OpenClaim := { program := "ytepeoiimdefnpaa", sum := "048ba1a23ba5c22d66bc9a51eedcbda06b7ebc707e9e4863e791fa65b8c7bd17", func := "reglet/regletlaw04.MetricsTells", spec := "metricsTells", apart := false }
def MetricsTellsSaid : Prop := metricsTellsRow.holds Try.pinned (OpenSpec.ofChange metricsTellsSpec)

/-- ITS FALSE NEIGHBOUR: 'it returns false'. Refute it at one input. -/
def metricsTellsWrong : ChangeSpec := { name := "metricsTells", fn := fun _ => fun
  | [d1, d2] => { results := [.lit (.bool false)], args := [d1, d2] }
  | _ => none }
def MetricsTellsWrongFalsely : Prop := metricsTellsRow.holds Try.pinned (OpenSpec.ofChange metricsTellsWrong)

/-- 'regletlaw04.MetricsSame': WHATEVER THE INPUT: true; the input reads as it did. -/
def metricsSameSpec : ChangeSpec := { name := "metricsSame", fn := fun _ => fun
  | [d1, d2] => { results := [.lit (.bool true)], args := [d1, d2] }
  | _ => none }
def metricsSameRow : OpenClaim := { program := "ytepeoiimdefnpaa", sum := "048ba1a23ba5c22d66bc9a51eedcbda06b7ebc707e9e4863e791fa65b8c7bd17", func := "reglet/regletlaw04.MetricsSame", spec := "metricsSame", apart := false }
def MetricsSameSaid : Prop := metricsSameRow.holds Try.pinned (OpenSpec.ofChange metricsSameSpec)

/-- ITS FALSE NEIGHBOUR: 'it returns false'. Refute it at one input. -/
def metricsSameWrong : ChangeSpec := { name := "metricsSame", fn := fun _ => fun
  | [d1, d2] => { results := [.lit (.bool false)], args := [d1, d2] }
  | _ => none }
def MetricsSameWrongFalsely : Prop := metricsSameRow.holds Try.pinned (OpenSpec.ofChange metricsSameWrong)

/- THE SECOND FORM. 'bulk': how many values and letters a reading holds, each counted each time it is reached (what is shared counts as often as it is met; a slice's spare places count too). A statement '..UptoSaid' is the law's where the arguments, and the package variables that the reading takes, are together of bulk at most 1048576: NARROWER than '..Said'. Prove '..Said' where nothing that the law and all that it calls make is longer than what came in: it says more and counts as full. Else prove '..UptoSaid'. A law counts once. -/
mutual
def uptoBulk {H : Type} : DataW H → Nat
  | .lit (.string bytes) => bytes.length + 1
  | .lit _ => 1
  | .nil => 1
  | .ptr d => uptoBulk d + 1
  | .slice elems spare => uptoBulkAll elems + uptoBulkAll spare + 1
  | .agg parts => uptoBulkAll parts + 1
  | .iface _ d => uptoBulk d + 1
  | .map entries => uptoBulkEntries entries + 1
  | .held _ => 1
def uptoBulkAll {H : Type} : List (DataW H) → Nat
  | [] => 0
  | d :: r => uptoBulk d + uptoBulkAll r
def uptoBulkEntries {H : Type} : List (Lit × DataW H) → Nat
  | [] => 0
  | x :: r => uptoBulkEntry x + uptoBulkEntries r
def uptoBulkEntry {H : Type} : Lit × DataW H → Nat
  | (.string bytes, d) => bytes.length + uptoBulk d + 1
  | (_, d) => uptoBulk d + 1
 end
def uptoSmall : (H : Type) → List (DataW H) → Bool := fun _ ds => decide (uptoBulkAll ds ≤ 1048576)
def OpenSpec.upto (s : _root_.Go.ChangeSpec) : _root_.Go.OpenSpec := { _root_.Go.OpenSpec.ofChange s with cond := some uptoSmall }

/-- 'regletlaw04.MetricsPlain', WHERE WHAT IT READS IS OF BULK AT MOST 1048576: true; the input reads as it did. -/
def metricsPlainUptoRow : OpenClaim := { program := "ytepeoiimdefnpaa", sum := "048ba1a23ba5c22d66bc9a51eedcbda06b7ebc707e9e4863e791fa65b8c7bd17", func := "reglet/regletlaw04.MetricsPlain", spec := "metricsPlain", apart := false, narrowed := true }
def MetricsPlainUptoSaid : Prop := metricsPlainUptoRow.holds Try.pinned (OpenSpec.upto metricsPlainSpec)

/-- 'regletlaw04.MetricsTells', WHERE WHAT IT READS IS OF BULK AT MOST 1048576: true; the input reads as it did. -/
def metricsTellsUptoRow : OpenClaim := { program := "ytepeoiimdefnpaa", sum := "048ba1a23ba5c22d66bc9a51eedcbda06b7ebc707e9e4863e791fa65b8c7bd17", func := "reglet/regletlaw04.MetricsTells", spec := "metricsTells", apart := false, narrowed := true }
def MetricsTellsUptoSaid : Prop := metricsTellsUptoRow.holds Try.pinned (OpenSpec.upto metricsTellsSpec)

/-- 'regletlaw04.MetricsSame', WHERE WHAT IT READS IS OF BULK AT MOST 1048576: true; the input reads as it did. -/
def metricsSameUptoRow : OpenClaim := { program := "ytepeoiimdefnpaa", sum := "048ba1a23ba5c22d66bc9a51eedcbda06b7ebc707e9e4863e791fa65b8c7bd17", func := "reglet/regletlaw04.MetricsSame", spec := "metricsSame", apart := false, narrowed := true }
def MetricsSameUptoSaid : Prop := metricsSameUptoRow.holds Try.pinned (OpenSpec.upto metricsSameSpec)

end Rows
end Go.Proofs.Ytepeoiimdefnpaa
