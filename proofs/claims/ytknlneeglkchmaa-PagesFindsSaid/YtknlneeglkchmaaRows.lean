/-
  No cell of these rows narrows 'for every input' (looked for: loops, veiled, ifaces, maps, wideKeys, modest, calm, conditions, laid).
  DERIVED. THE GIVEN ROWS OF THIS SEAT. 7 by the template 'for every input the law returns true; each argument reads behind the call as it read before'; 0 by the template 'total and deterministic' (their statements: YtknlneeglkchmaaTotals.lean).
  GIVEN WITH THE SEED: the statements are not yours to turn. If you find one false, say at which input.
  Laid BY PROGRAM, IN A SANDBOX (cutbox-rows.mjs): the forced cells as the released guide's own fill.sh prints them over the translation 158793b53af30998… (all of the seat's roots in one cut). By AI agents, Wed Nov 11 2026. No macro, syntax, notation, axiom, sorry.
-/
import Derived.Test.YtknlneeglkchmaaChecked
import GoSem.Claim
import GoSem.ClaimJoined
import GoSem.ClaimMapViews
import Derived.JoinedTies
import Derived.KernelRfl
namespace Go.Proofs.Ytknlneeglkchmaa
/- THE CELL 'sum', in the pinned program and in every row, IS THE sha256 OF THE DUMP (.gsa) THAT YtknlneeglkchmaaProg.lean LOADS. Nothing in Lean hashes anything: it is a label: what it is worth is what the hold of that sum in a sandbox is worth. -/
noncomputable def Try.pinned : Pinned := { name := "ytknlneeglkchmaa", sum := "158793b53af30998db7a383cff03247eec0857db91702b032f1c234d9615a122", checked := Try.checked }
namespace Rows
def none {H : Type} : Left H := { results := [], args := [] }

/-- 'regletlaw12.PagesLaid': WHATEVER THE INPUT: true; the input reads as it did. -/
def pagesLaidSpec : ChangeSpec := { name := "pagesLaid", fn := fun _ => fun
  | [d1, d2, d3] => { results := [.lit (.bool true)], args := [d1, d2, d3] }
  | _ => none }
def pagesLaidRow : OpenClaim := { program := "ytknlneeglkchmaa", sum := "158793b53af30998db7a383cff03247eec0857db91702b032f1c234d9615a122", func := "reglet/regletlaw12.PagesLaid", spec := "pagesLaid", apart := false }
def PagesLaidSaid : Prop := pagesLaidRow.holds Try.pinned (OpenSpec.ofChange pagesLaidSpec)

/-- ITS FALSE NEIGHBOUR: 'it returns false'. Refute it at one input. -/
def pagesLaidWrong : ChangeSpec := { name := "pagesLaid", fn := fun _ => fun
  | [d1, d2, d3] => { results := [.lit (.bool false)], args := [d1, d2, d3] }
  | _ => none }
def PagesLaidWrongFalsely : Prop := pagesLaidRow.holds Try.pinned (OpenSpec.ofChange pagesLaidWrong)

/-- 'regletlaw12.PagesNext': WHATEVER THE INPUT: true; the input reads as it did. -/
def pagesNextSpec : ChangeSpec := { name := "pagesNext", fn := fun _ => fun
  | [d1, d2, d3] => { results := [.lit (.bool true)], args := [d1, d2, d3] }
  | _ => none }
def pagesNextRow : OpenClaim := { program := "ytknlneeglkchmaa", sum := "158793b53af30998db7a383cff03247eec0857db91702b032f1c234d9615a122", func := "reglet/regletlaw12.PagesNext", spec := "pagesNext", apart := false }
def PagesNextSaid : Prop := pagesNextRow.holds Try.pinned (OpenSpec.ofChange pagesNextSpec)

/-- ITS FALSE NEIGHBOUR: 'it returns false'. Refute it at one input. -/
def pagesNextWrong : ChangeSpec := { name := "pagesNext", fn := fun _ => fun
  | [d1, d2, d3] => { results := [.lit (.bool false)], args := [d1, d2, d3] }
  | _ => none }
def PagesNextWrongFalsely : Prop := pagesNextRow.holds Try.pinned (OpenSpec.ofChange pagesNextWrong)

/-- 'regletlaw12.PagesWhole': WHATEVER THE INPUT: true; the input reads as it did. -/
def pagesWholeSpec : ChangeSpec := { name := "pagesWhole", fn := fun _ => fun
  | [d1, d2, d3] => { results := [.lit (.bool true)], args := [d1, d2, d3] }
  | _ => none }
def pagesWholeRow : OpenClaim := { program := "ytknlneeglkchmaa", sum := "158793b53af30998db7a383cff03247eec0857db91702b032f1c234d9615a122", func := "reglet/regletlaw12.PagesWhole", spec := "pagesWhole", apart := false }
def PagesWholeSaid : Prop := pagesWholeRow.holds Try.pinned (OpenSpec.ofChange pagesWholeSpec)

/-- ITS FALSE NEIGHBOUR: 'it returns false'. Refute it at one input. -/
def pagesWholeWrong : ChangeSpec := { name := "pagesWhole", fn := fun _ => fun
  | [d1, d2, d3] => { results := [.lit (.bool false)], args := [d1, d2, d3] }
  | _ => none }
def PagesWholeWrongFalsely : Prop := pagesWholeRow.holds Try.pinned (OpenSpec.ofChange pagesWholeWrong)

/-- 'regletlaw12.PagesMay': WHATEVER THE INPUT: true; the input reads as it did. -/
def pagesMaySpec : ChangeSpec := { name := "pagesMay", fn := fun _ => fun
  | [d1, d2] => { results := [.lit (.bool true)], args := [d1, d2] }
  | _ => none }
def pagesMayRow : OpenClaim := { program := "ytknlneeglkchmaa", sum := "158793b53af30998db7a383cff03247eec0857db91702b032f1c234d9615a122", func := "reglet/regletlaw12.PagesMay", spec := "pagesMay", apart := false }
def PagesMaySaid : Prop := pagesMayRow.holds Try.pinned (OpenSpec.ofChange pagesMaySpec)

/-- ITS FALSE NEIGHBOUR: 'it returns false'. Refute it at one input. -/
def pagesMayWrong : ChangeSpec := { name := "pagesMay", fn := fun _ => fun
  | [d1, d2] => { results := [.lit (.bool false)], args := [d1, d2] }
  | _ => none }
def PagesMayWrongFalsely : Prop := pagesMayRow.holds Try.pinned (OpenSpec.ofChange pagesMayWrong)

/-- 'regletlaw12.PagesFit': WHATEVER THE INPUT: true; the input reads as it did. -/
def pagesFitSpec : ChangeSpec := { name := "pagesFit", fn := fun _ => fun
  | [d1, d2, d3] => { results := [.lit (.bool true)], args := [d1, d2, d3] }
  | _ => none }
def pagesFitRow : OpenClaim := { program := "ytknlneeglkchmaa", sum := "158793b53af30998db7a383cff03247eec0857db91702b032f1c234d9615a122", func := "reglet/regletlaw12.PagesFit", spec := "pagesFit", apart := false }
def PagesFitSaid : Prop := pagesFitRow.holds Try.pinned (OpenSpec.ofChange pagesFitSpec)

/-- ITS FALSE NEIGHBOUR: 'it returns false'. Refute it at one input. -/
def pagesFitWrong : ChangeSpec := { name := "pagesFit", fn := fun _ => fun
  | [d1, d2, d3] => { results := [.lit (.bool false)], args := [d1, d2, d3] }
  | _ => none }
def PagesFitWrongFalsely : Prop := pagesFitRow.holds Try.pinned (OpenSpec.ofChange pagesFitWrong)

/-- 'regletlaw12.PagesFinds': WHATEVER THE INPUT: true; the input reads as it did. -/
def pagesFindsSpec : ChangeSpec := { name := "pagesFinds", fn := fun _ => fun
  | [d1, d2] => { results := [.lit (.bool true)], args := [d1, d2] }
  | _ => none }
def pagesFindsRow : OpenClaim := { program := "ytknlneeglkchmaa", sum := "158793b53af30998db7a383cff03247eec0857db91702b032f1c234d9615a122", func := "reglet/regletlaw12.PagesFinds", spec := "pagesFinds", apart := false }
def PagesFindsSaid : Prop := pagesFindsRow.holds Try.pinned (OpenSpec.ofChange pagesFindsSpec)

/-- ITS FALSE NEIGHBOUR: 'it returns false'. Refute it at one input. -/
def pagesFindsWrong : ChangeSpec := { name := "pagesFinds", fn := fun _ => fun
  | [d1, d2] => { results := [.lit (.bool false)], args := [d1, d2] }
  | _ => none }
def PagesFindsWrongFalsely : Prop := pagesFindsRow.holds Try.pinned (OpenSpec.ofChange pagesFindsWrong)

/-- 'regletlaw12.PagesOf': WHATEVER THE INPUT: true; the input reads as it did. -/
def pagesOfSpec : ChangeSpec := { name := "pagesOf", fn := fun _ => fun
  | [d1, d2] => { results := [.lit (.bool true)], args := [d1, d2] }
  | _ => none }
def pagesOfRow : OpenClaim := { program := "ytknlneeglkchmaa", sum := "158793b53af30998db7a383cff03247eec0857db91702b032f1c234d9615a122", func := "reglet/regletlaw12.PagesOf", spec := "pagesOf", apart := false }
def PagesOfSaid : Prop := pagesOfRow.holds Try.pinned (OpenSpec.ofChange pagesOfSpec)

/-- ITS FALSE NEIGHBOUR: 'it returns false'. Refute it at one input. -/
def pagesOfWrong : ChangeSpec := { name := "pagesOf", fn := fun _ => fun
  | [d1, d2] => { results := [.lit (.bool false)], args := [d1, d2] }
  | _ => none }
def PagesOfWrongFalsely : Prop := pagesOfRow.holds Try.pinned (OpenSpec.ofChange pagesOfWrong)

/- THE SECOND FORM. 'bulk': how many values and letters a reading holds, each counted each time it is reached (what is shared counts as often as it is met; a slice's spare places count too). A statement '..UptoSaid' is the law's where the arguments, and the package variables that the reading takes, are together of bulk at most 1048576: NARROWER than '..Said'. Prove '..Said' where nothing that the law and all that it calls make is longer than what came in: it says more and counts as full. Else prove '..UptoSaid'. A law counts once. -/
mutual
def uptoBulk {H : Type} : DataW H → Nat
  | .lit (.string bytes) => bytes.length + 1
  | .lit _ => 1
  | .nil => 1
  | .ptr d => uptoBulk d + 1
  | .slice elems spare => uptoBulkAll elems + uptoBulkAll spare + 1
  | .agg parts => uptoBulkAll parts + 1
  | .iface _ d => uptoBulk d + 1
  | .map entries => uptoBulkEntries entries + 1
  | .held _ => 1
def uptoBulkAll {H : Type} : List (DataW H) → Nat
  | [] => 0
  | d :: r => uptoBulk d + uptoBulkAll r
def uptoBulkEntries {H : Type} : List (Lit × DataW H) → Nat
  | [] => 0
  | x :: r => uptoBulkEntry x + uptoBulkEntries r
def uptoBulkEntry {H : Type} : Lit × DataW H → Nat
  | (.string bytes, d) => bytes.length + uptoBulk d + 1
  | (_, d) => uptoBulk d + 1
 end
def uptoSmall : (H : Type) → List (DataW H) → Bool := fun _ ds => decide (uptoBulkAll ds ≤ 1048576)
def OpenSpec.upto (s : _root_.Go.ChangeSpec) : _root_.Go.OpenSpec := { _root_.Go.OpenSpec.ofChange s with cond := some uptoSmall }

/-- 'regletlaw12.PagesLaid', WHERE WHAT IT READS IS OF BULK AT MOST 1048576: true; the input reads as it did. -/
def pagesLaidUptoRow : OpenClaim := { program := "ytknlneeglkchmaa", sum := "158793b53af30998db7a383cff03247eec0857db91702b032f1c234d9615a122", func := "reglet/regletlaw12.PagesLaid", spec := "pagesLaid", apart := false, narrowed := true }
def PagesLaidUptoSaid : Prop := pagesLaidUptoRow.holds Try.pinned (OpenSpec.upto pagesLaidSpec)

/-- 'regletlaw12.PagesNext', WHERE WHAT IT READS IS OF BULK AT MOST 1048576: true; the input reads as it did. -/
def pagesNextUptoRow : OpenClaim := { program := "ytknlneeglkchmaa", sum := "158793b53af30998db7a383cff03247eec0857db91702b032f1c234d9615a122", func := "reglet/regletlaw12.PagesNext", spec := "pagesNext", apart := false, narrowed := true }
def PagesNextUptoSaid : Prop := pagesNextUptoRow.holds Try.pinned (OpenSpec.upto pagesNextSpec)

/-- 'regletlaw12.PagesWhole', WHERE WHAT IT READS IS OF BULK AT MOST 1048576: true; the input reads as it did. -/
def pagesWholeUptoRow : OpenClaim := { program := "ytknlneeglkchmaa", sum := "158793b53af30998db7a383cff03247eec0857db91702b032f1c234d9615a122", func := "reglet/regletlaw12.PagesWhole", spec := "pagesWhole", apart := false, narrowed := true }
def PagesWholeUptoSaid : Prop := pagesWholeUptoRow.holds Try.pinned (OpenSpec.upto pagesWholeSpec)

/-- 'regletlaw12.PagesMay', WHERE WHAT IT READS IS OF BULK AT MOST 1048576: true; the input reads as it did. -/
def pagesMayUptoRow : OpenClaim := { program := "ytknlneeglkchmaa", sum := "158793b53af30998db7a383cff03247eec0857db91702b032f1c234d9615a122", func := "reglet/regletlaw12.PagesMay", spec := "pagesMay", apart := false, narrowed := true }
def PagesMayUptoSaid : Prop := pagesMayUptoRow.holds Try.pinned (OpenSpec.upto pagesMaySpec)

/-- 'regletlaw12.PagesFit', WHERE WHAT IT READS IS OF BULK AT MOST 1048576: true; the input reads as it did. -/
def pagesFitUptoRow : OpenClaim := { program := "ytknlneeglkchmaa", sum := "158793b53af30998db7a383cff03247eec0857db91702b032f1c234d9615a122", func := "reglet/regletlaw12.PagesFit", spec := "pagesFit", apart := false, narrowed := true }
def PagesFitUptoSaid : Prop := pagesFitUptoRow.holds Try.pinned (OpenSpec.upto pagesFitSpec)

/-- 'regletlaw12.PagesFinds', WHERE WHAT IT READS IS OF BULK AT MOST 1048576: true; the input reads as it did. -/
def pagesFindsUptoRow : OpenClaim := { program := "ytknlneeglkchmaa", sum := "158793b53af30998db7a383cff03247eec0857db91702b032f1c234d9615a122", func := "reglet/regletlaw12.PagesFinds", spec := "pagesFinds", apart := false, narrowed := true }
def PagesFindsUptoSaid : Prop := pagesFindsUptoRow.holds Try.pinned (OpenSpec.upto pagesFindsSpec)

/-- 'regletlaw12.PagesOf', WHERE WHAT IT READS IS OF BULK AT MOST 1048576: true; the input reads as it did. -/
def pagesOfUptoRow : OpenClaim := { program := "ytknlneeglkchmaa", sum := "158793b53af30998db7a383cff03247eec0857db91702b032f1c234d9615a122", func := "reglet/regletlaw12.PagesOf", spec := "pagesOf", apart := false, narrowed := true }
def PagesOfUptoSaid : Prop := pagesOfUptoRow.holds Try.pinned (OpenSpec.upto pagesOfSpec)

end Rows
end Go.Proofs.Ytknlneeglkchmaa
