/-
  No cell of these rows narrows 'for every input' (looked for: loops, veiled, ifaces, maps, wideKeys, modest, calm, conditions, laid).
  DERIVED. THE GIVEN ROWS OF THIS SEAT. 10 by the template 'for every input the law returns true; each argument reads behind the call as it read before'; 0 by the template 'total and deterministic' (their statements: YtedplhcdlkhbnaaTotals.lean).
  GIVEN WITH THE SEED: the statements are not yours to turn. If you find one false, say at which input.
  Laid BY PROGRAM, IN A SANDBOX (cutbox-rows.mjs): the forced cells as the released guide's own fill.sh prints them over the translation 0769df558d9f56f9… (all of the seat's roots in one cut). By AI agents, Wed Nov 11 2026. No macro, syntax, notation, axiom, sorry.
-/
import Derived.Test.YtedplhcdlkhbnaaChecked
import GoSem.Claim
import GoSem.ClaimJoined
import GoSem.ClaimMapViews
import Derived.JoinedTies
import Derived.KernelRfl
namespace Go.Proofs.Ytedplhcdlkhbnaa
/- THE CELL 'sum', in the pinned program and in every row, IS THE sha256 OF THE DUMP (.gsa) THAT YtedplhcdlkhbnaaProg.lean LOADS. Nothing in Lean hashes anything: it is a label: what it is worth is what the hold of that sum in a sandbox is worth. -/
noncomputable def Try.pinned : Pinned := { name := "ytedplhcdlkhbnaa", sum := "0769df558d9f56f9c0e069d293f1d8e8b716dce858d093c4c89c897838e9e7f4", checked := Try.checked }
namespace Rows
def none {H : Type} : Left H := { results := [], args := [] }

/-- 'regletlaw01.ScaledBad': WHATEVER THE INPUT: true; the input reads as it did. -/
def scaledBadSpec : ChangeSpec := { name := "scaledBad", fn := fun _ => fun
  | [d1, d2] => { results := [.lit (.bool true)], args := [d1, d2] }
  | _ => none }
def scaledBadRow : OpenClaim := { program := "ytedplhcdlkhbnaa", sum := "0769df558d9f56f9c0e069d293f1d8e8b716dce858d093c4c89c897838e9e7f4", func := "reglet/regletlaw01.ScaledBad", spec := "scaledBad", inPlace := ["math/bits.Add64"], apart := false }
def ScaledBadSaid : Prop := scaledBadRow.holds Try.pinned (OpenSpec.ofChange scaledBadSpec)

/-- ITS FALSE NEIGHBOUR: 'it returns false'. Refute it at one input. -/
def scaledBadWrong : ChangeSpec := { name := "scaledBad", fn := fun _ => fun
  | [d1, d2] => { results := [.lit (.bool false)], args := [d1, d2] }
  | _ => none }
def ScaledBadWrongFalsely : Prop := scaledBadRow.holds Try.pinned (OpenSpec.ofChange scaledBadWrong)

/-- 'regletlaw01.ScaledRises': WHATEVER THE INPUT: true; the input reads as it did. -/
def scaledRisesSpec : ChangeSpec := { name := "scaledRises", fn := fun _ => fun
  | [d1, d2, d3] => { results := [.lit (.bool true)], args := [d1, d2, d3] }
  | _ => none }
def scaledRisesRow : OpenClaim := { program := "ytedplhcdlkhbnaa", sum := "0769df558d9f56f9c0e069d293f1d8e8b716dce858d093c4c89c897838e9e7f4", func := "reglet/regletlaw01.ScaledRises", spec := "scaledRises", inPlace := ["math/bits.Add64"], apart := false }
def ScaledRisesSaid : Prop := scaledRisesRow.holds Try.pinned (OpenSpec.ofChange scaledRisesSpec)

/-- ITS FALSE NEIGHBOUR: 'it returns false'. Refute it at one input. -/
def scaledRisesWrong : ChangeSpec := { name := "scaledRises", fn := fun _ => fun
  | [d1, d2, d3] => { results := [.lit (.bool false)], args := [d1, d2, d3] }
  | _ => none }
def ScaledRisesWrongFalsely : Prop := scaledRisesRow.holds Try.pinned (OpenSpec.ofChange scaledRisesWrong)

/-- 'regletlaw01.ScaledDivides': WHATEVER THE INPUT: true; the input reads as it did. -/
def scaledDividesSpec : ChangeSpec := { name := "scaledDivides", fn := fun _ => fun
  | [d1, d2] => { results := [.lit (.bool true)], args := [d1, d2] }
  | _ => none }
def scaledDividesRow : OpenClaim := { program := "ytedplhcdlkhbnaa", sum := "0769df558d9f56f9c0e069d293f1d8e8b716dce858d093c4c89c897838e9e7f4", func := "reglet/regletlaw01.ScaledDivides", spec := "scaledDivides", inPlace := ["math/bits.Add64"], apart := false }
def ScaledDividesSaid : Prop := scaledDividesRow.holds Try.pinned (OpenSpec.ofChange scaledDividesSpec)

/-- ITS FALSE NEIGHBOUR: 'it returns false'. Refute it at one input. -/
def scaledDividesWrong : ChangeSpec := { name := "scaledDivides", fn := fun _ => fun
  | [d1, d2] => { results := [.lit (.bool false)], args := [d1, d2] }
  | _ => none }
def ScaledDividesWrongFalsely : Prop := scaledDividesRow.holds Try.pinned (OpenSpec.ofChange scaledDividesWrong)

/-- 'regletlaw01.ScaledBack': WHATEVER THE INPUT: true; the input reads as it did. -/
def scaledBackSpec : ChangeSpec := { name := "scaledBack", fn := fun _ => fun
  | [d1, d2] => { results := [.lit (.bool true)], args := [d1, d2] }
  | _ => none }
def scaledBackRow : OpenClaim := { program := "ytedplhcdlkhbnaa", sum := "0769df558d9f56f9c0e069d293f1d8e8b716dce858d093c4c89c897838e9e7f4", func := "reglet/regletlaw01.ScaledBack", spec := "scaledBack", inPlace := ["math/bits.Add64"], apart := false }
def ScaledBackSaid : Prop := scaledBackRow.holds Try.pinned (OpenSpec.ofChange scaledBackSpec)

/-- ITS FALSE NEIGHBOUR: 'it returns false'. Refute it at one input. -/
def scaledBackWrong : ChangeSpec := { name := "scaledBack", fn := fun _ => fun
  | [d1, d2] => { results := [.lit (.bool false)], args := [d1, d2] }
  | _ => none }
def ScaledBackWrongFalsely : Prop := scaledBackRow.holds Try.pinned (OpenSpec.ofChange scaledBackWrong)

/-- 'regletlaw01.ScaledSums': WHATEVER THE INPUT: true; the input reads as it did. -/
def scaledSumsSpec : ChangeSpec := { name := "scaledSums", fn := fun _ => fun
  | [d] => { results := [.lit (.bool true)], args := [d] }
  | _ => none }
def scaledSumsRow : OpenClaim := { program := "ytedplhcdlkhbnaa", sum := "0769df558d9f56f9c0e069d293f1d8e8b716dce858d093c4c89c897838e9e7f4", func := "reglet/regletlaw01.ScaledSums", spec := "scaledSums", inPlace := ["math/bits.Add64"], apart := false }
def ScaledSumsSaid : Prop := scaledSumsRow.holds Try.pinned (OpenSpec.ofChange scaledSumsSpec)

/-- ITS FALSE NEIGHBOUR: 'it returns false'. Refute it at one input. -/
def scaledSumsWrong : ChangeSpec := { name := "scaledSums", fn := fun _ => fun
  | [d] => { results := [.lit (.bool false)], args := [d] }
  | _ => none }
def ScaledSumsWrongFalsely : Prop := scaledSumsRow.holds Try.pinned (OpenSpec.ofChange scaledSumsWrong)

/-- 'regletlaw01.ScaledAdds': WHATEVER THE INPUT: true; the input reads as it did. -/
def scaledAddsSpec : ChangeSpec := { name := "scaledAdds", fn := fun _ => fun
  | [d1, d2] => { results := [.lit (.bool true)], args := [d1, d2] }
  | _ => none }
def scaledAddsRow : OpenClaim := { program := "ytedplhcdlkhbnaa", sum := "0769df558d9f56f9c0e069d293f1d8e8b716dce858d093c4c89c897838e9e7f4", func := "reglet/regletlaw01.ScaledAdds", spec := "scaledAdds", inPlace := ["math/bits.Add64"], apart := false }
def ScaledAddsSaid : Prop := scaledAddsRow.holds Try.pinned (OpenSpec.ofChange scaledAddsSpec)

/-- ITS FALSE NEIGHBOUR: 'it returns false'. Refute it at one input. -/
def scaledAddsWrong : ChangeSpec := { name := "scaledAdds", fn := fun _ => fun
  | [d1, d2] => { results := [.lit (.bool false)], args := [d1, d2] }
  | _ => none }
def ScaledAddsWrongFalsely : Prop := scaledAddsRow.holds Try.pinned (OpenSpec.ofChange scaledAddsWrong)

/-- 'regletlaw01.ScaledLowest': WHATEVER THE INPUT: true; the input reads as it did. -/
def scaledLowestSpec : ChangeSpec := { name := "scaledLowest", fn := fun _ => fun
  | [d1, d2] => { results := [.lit (.bool true)], args := [d1, d2] }
  | _ => none }
def scaledLowestRow : OpenClaim := { program := "ytedplhcdlkhbnaa", sum := "0769df558d9f56f9c0e069d293f1d8e8b716dce858d093c4c89c897838e9e7f4", func := "reglet/regletlaw01.ScaledLowest", spec := "scaledLowest", inPlace := ["math/bits.Add64"], apart := false }
def ScaledLowestSaid : Prop := scaledLowestRow.holds Try.pinned (OpenSpec.ofChange scaledLowestSpec)

/-- ITS FALSE NEIGHBOUR: 'it returns false'. Refute it at one input. -/
def scaledLowestWrong : ChangeSpec := { name := "scaledLowest", fn := fun _ => fun
  | [d1, d2] => { results := [.lit (.bool false)], args := [d1, d2] }
  | _ => none }
def ScaledLowestWrongFalsely : Prop := scaledLowestRow.holds Try.pinned (OpenSpec.ofChange scaledLowestWrong)

/-- 'regletlaw01.ScaledDemerits': WHATEVER THE INPUT: true; the input reads as it did. -/
def scaledDemeritsSpec : ChangeSpec := { name := "scaledDemerits", fn := fun _ => fun
  | [d1, d2, d3] => { results := [.lit (.bool true)], args := [d1, d2, d3] }
  | _ => none }
def scaledDemeritsRow : OpenClaim := { program := "ytedplhcdlkhbnaa", sum := "0769df558d9f56f9c0e069d293f1d8e8b716dce858d093c4c89c897838e9e7f4", func := "reglet/regletlaw01.ScaledDemerits", spec := "scaledDemerits", inPlace := ["math/bits.Add64"], apart := false }
def ScaledDemeritsSaid : Prop := scaledDemeritsRow.holds Try.pinned (OpenSpec.ofChange scaledDemeritsSpec)

/-- ITS FALSE NEIGHBOUR: 'it returns false'. Refute it at one input. -/
def scaledDemeritsWrong : ChangeSpec := { name := "scaledDemerits", fn := fun _ => fun
  | [d1, d2, d3] => { results := [.lit (.bool false)], args := [d1, d2, d3] }
  | _ => none }
def ScaledDemeritsWrongFalsely : Prop := scaledDemeritsRow.holds Try.pinned (OpenSpec.ofChange scaledDemeritsWrong)

/-- 'regletlaw01.ScaledOrders': WHATEVER THE INPUT: true; the input reads as it did. -/
def scaledOrdersSpec : ChangeSpec := { name := "scaledOrders", fn := fun _ => fun
  | [d] => { results := [.lit (.bool true)], args := [d] }
  | _ => none }
def scaledOrdersRow : OpenClaim := { program := "ytedplhcdlkhbnaa", sum := "0769df558d9f56f9c0e069d293f1d8e8b716dce858d093c4c89c897838e9e7f4", func := "reglet/regletlaw01.ScaledOrders", spec := "scaledOrders", inPlace := ["math/bits.Add64"], apart := false }
def ScaledOrdersSaid : Prop := scaledOrdersRow.holds Try.pinned (OpenSpec.ofChange scaledOrdersSpec)

/-- ITS FALSE NEIGHBOUR: 'it returns false'. Refute it at one input. -/
def scaledOrdersWrong : ChangeSpec := { name := "scaledOrders", fn := fun _ => fun
  | [d] => { results := [.lit (.bool false)], args := [d] }
  | _ => none }
def ScaledOrdersWrongFalsely : Prop := scaledOrdersRow.holds Try.pinned (OpenSpec.ofChange scaledOrdersWrong)

/-- 'regletlaw01.ScaledShares': WHATEVER THE INPUT: true; the input reads as it did. -/
def scaledSharesSpec : ChangeSpec := { name := "scaledShares", fn := fun _ => fun
  | [d1, d2, d3] => { results := [.lit (.bool true)], args := [d1, d2, d3] }
  | _ => none }
def scaledSharesRow : OpenClaim := { program := "ytedplhcdlkhbnaa", sum := "0769df558d9f56f9c0e069d293f1d8e8b716dce858d093c4c89c897838e9e7f4", func := "reglet/regletlaw01.ScaledShares", spec := "scaledShares", inPlace := ["math/bits.Add64"], named := ["math/bits.divideError", "math/bits.overflowError"], apart := false }
def ScaledSharesSaid : Prop := scaledSharesRow.holds Try.pinned (OpenSpec.ofChange scaledSharesSpec)

/-- ITS FALSE NEIGHBOUR: 'it returns false'. Refute it at one input. -/
def scaledSharesWrong : ChangeSpec := { name := "scaledShares", fn := fun _ => fun
  | [d1, d2, d3] => { results := [.lit (.bool false)], args := [d1, d2, d3] }
  | _ => none }
def ScaledSharesWrongFalsely : Prop := scaledSharesRow.holds Try.pinned (OpenSpec.ofChange scaledSharesWrong)

/- THE SECOND FORM. 'bulk': how many values and letters a reading holds, each counted each time it is reached (what is shared counts as often as it is met; a slice's spare places count too). A statement '..UptoSaid' is the law's where the arguments, and the package variables that the reading takes, are together of bulk at most 1048576: NARROWER than '..Said'. Prove '..Said' where nothing that the law and all that it calls make is longer than what came in: it says more and counts as full. Else prove '..UptoSaid'. A law counts once. -/
mutual
def uptoBulk {H : Type} : DataW H → Nat
  | .lit (.string bytes) => bytes.length + 1
  | .lit _ => 1
  | .nil => 1
  | .ptr d => uptoBulk d + 1
  | .slice elems spare => uptoBulkAll elems + uptoBulkAll spare + 1
  | .agg parts => uptoBulkAll parts + 1
  | .iface _ d => uptoBulk d + 1
  | .map entries => uptoBulkEntries entries + 1
  | .held _ => 1
def uptoBulkAll {H : Type} : List (DataW H) → Nat
  | [] => 0
  | d :: r => uptoBulk d + uptoBulkAll r
def uptoBulkEntries {H : Type} : List (Lit × DataW H) → Nat
  | [] => 0
  | x :: r => uptoBulkEntry x + uptoBulkEntries r
def uptoBulkEntry {H : Type} : Lit × DataW H → Nat
  | (.string bytes, d) => bytes.length + uptoBulk d + 1
  | (_, d) => uptoBulk d + 1
 end
def uptoSmall : (H : Type) → List (DataW H) → Bool := fun _ ds => decide (uptoBulkAll ds ≤ 1048576)
def OpenSpec.upto (s : _root_.Go.ChangeSpec) : _root_.Go.OpenSpec := { _root_.Go.OpenSpec.ofChange s with cond := some uptoSmall }

/-- 'regletlaw01.ScaledBad', WHERE WHAT IT READS IS OF BULK AT MOST 1048576: true; the input reads as it did. -/
def scaledBadUptoRow : OpenClaim := { program := "ytedplhcdlkhbnaa", sum := "0769df558d9f56f9c0e069d293f1d8e8b716dce858d093c4c89c897838e9e7f4", func := "reglet/regletlaw01.ScaledBad", spec := "scaledBad", inPlace := ["math/bits.Add64"], apart := false, narrowed := true }
def ScaledBadUptoSaid : Prop := scaledBadUptoRow.holds Try.pinned (OpenSpec.upto scaledBadSpec)

/-- 'regletlaw01.ScaledRises', WHERE WHAT IT READS IS OF BULK AT MOST 1048576: true; the input reads as it did. -/
def scaledRisesUptoRow : OpenClaim := { program := "ytedplhcdlkhbnaa", sum := "0769df558d9f56f9c0e069d293f1d8e8b716dce858d093c4c89c897838e9e7f4", func := "reglet/regletlaw01.ScaledRises", spec := "scaledRises", inPlace := ["math/bits.Add64"], apart := false, narrowed := true }
def ScaledRisesUptoSaid : Prop := scaledRisesUptoRow.holds Try.pinned (OpenSpec.upto scaledRisesSpec)

/-- 'regletlaw01.ScaledDivides', WHERE WHAT IT READS IS OF BULK AT MOST 1048576: true; the input reads as it did. -/
def scaledDividesUptoRow : OpenClaim := { program := "ytedplhcdlkhbnaa", sum := "0769df558d9f56f9c0e069d293f1d8e8b716dce858d093c4c89c897838e9e7f4", func := "reglet/regletlaw01.ScaledDivides", spec := "scaledDivides", inPlace := ["math/bits.Add64"], apart := false, narrowed := true }
def ScaledDividesUptoSaid : Prop := scaledDividesUptoRow.holds Try.pinned (OpenSpec.upto scaledDividesSpec)

/-- 'regletlaw01.ScaledBack', WHERE WHAT IT READS IS OF BULK AT MOST 1048576: true; the input reads as it did. -/
def scaledBackUptoRow : OpenClaim := { program := "ytedplhcdlkhbnaa", sum := "0769df558d9f56f9c0e069d293f1d8e8b716dce858d093c4c89c897838e9e7f4", func := "reglet/regletlaw01.ScaledBack", spec := "scaledBack", inPlace := ["math/bits.Add64"], apart := false, narrowed := true }
def ScaledBackUptoSaid : Prop := scaledBackUptoRow.holds Try.pinned (OpenSpec.upto scaledBackSpec)

/-- 'regletlaw01.ScaledSums', WHERE WHAT IT READS IS OF BULK AT MOST 1048576: true; the input reads as it did. -/
def scaledSumsUptoRow : OpenClaim := { program := "ytedplhcdlkhbnaa", sum := "0769df558d9f56f9c0e069d293f1d8e8b716dce858d093c4c89c897838e9e7f4", func := "reglet/regletlaw01.ScaledSums", spec := "scaledSums", inPlace := ["math/bits.Add64"], apart := false, narrowed := true }
def ScaledSumsUptoSaid : Prop := scaledSumsUptoRow.holds Try.pinned (OpenSpec.upto scaledSumsSpec)

/-- 'regletlaw01.ScaledAdds', WHERE WHAT IT READS IS OF BULK AT MOST 1048576: true; the input reads as it did. -/
def scaledAddsUptoRow : OpenClaim := { program := "ytedplhcdlkhbnaa", sum := "0769df558d9f56f9c0e069d293f1d8e8b716dce858d093c4c89c897838e9e7f4", func := "reglet/regletlaw01.ScaledAdds", spec := "scaledAdds", inPlace := ["math/bits.Add64"], apart := false, narrowed := true }
def ScaledAddsUptoSaid : Prop := scaledAddsUptoRow.holds Try.pinned (OpenSpec.upto scaledAddsSpec)

/-- 'regletlaw01.ScaledLowest', WHERE WHAT IT READS IS OF BULK AT MOST 1048576: true; the input reads as it did. -/
def scaledLowestUptoRow : OpenClaim := { program := "ytedplhcdlkhbnaa", sum := "0769df558d9f56f9c0e069d293f1d8e8b716dce858d093c4c89c897838e9e7f4", func := "reglet/regletlaw01.ScaledLowest", spec := "scaledLowest", inPlace := ["math/bits.Add64"], apart := false, narrowed := true }
def ScaledLowestUptoSaid : Prop := scaledLowestUptoRow.holds Try.pinned (OpenSpec.upto scaledLowestSpec)

/-- 'regletlaw01.ScaledDemerits', WHERE WHAT IT READS IS OF BULK AT MOST 1048576: true; the input reads as it did. -/
def scaledDemeritsUptoRow : OpenClaim := { program := "ytedplhcdlkhbnaa", sum := "0769df558d9f56f9c0e069d293f1d8e8b716dce858d093c4c89c897838e9e7f4", func := "reglet/regletlaw01.ScaledDemerits", spec := "scaledDemerits", inPlace := ["math/bits.Add64"], apart := false, narrowed := true }
def ScaledDemeritsUptoSaid : Prop := scaledDemeritsUptoRow.holds Try.pinned (OpenSpec.upto scaledDemeritsSpec)

/-- 'regletlaw01.ScaledOrders', WHERE WHAT IT READS IS OF BULK AT MOST 1048576: true; the input reads as it did. -/
def scaledOrdersUptoRow : OpenClaim := { program := "ytedplhcdlkhbnaa", sum := "0769df558d9f56f9c0e069d293f1d8e8b716dce858d093c4c89c897838e9e7f4", func := "reglet/regletlaw01.ScaledOrders", spec := "scaledOrders", inPlace := ["math/bits.Add64"], apart := false, narrowed := true }
def ScaledOrdersUptoSaid : Prop := scaledOrdersUptoRow.holds Try.pinned (OpenSpec.upto scaledOrdersSpec)

/-- 'regletlaw01.ScaledShares', WHERE WHAT IT READS IS OF BULK AT MOST 1048576: true; the input reads as it did. -/
def scaledSharesUptoRow : OpenClaim := { program := "ytedplhcdlkhbnaa", sum := "0769df558d9f56f9c0e069d293f1d8e8b716dce858d093c4c89c897838e9e7f4", func := "reglet/regletlaw01.ScaledShares", spec := "scaledShares", inPlace := ["math/bits.Add64"], named := ["math/bits.divideError", "math/bits.overflowError"], apart := false, narrowed := true }
def ScaledSharesUptoSaid : Prop := scaledSharesUptoRow.holds Try.pinned (OpenSpec.upto scaledSharesSpec)

end Rows
end Go.Proofs.Ytedplhcdlkhbnaa
