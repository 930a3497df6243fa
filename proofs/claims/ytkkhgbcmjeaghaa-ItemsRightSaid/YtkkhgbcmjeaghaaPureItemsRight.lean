/- Any items may be a paragraph's, or not, as the page says. -/
import Derived.Test.YtkkhgbcmjeaghaaJa
namespace Go.Proofs.Ytkkhgbcmjeaghaa.Vm
open Go
open _root_.Go.RowKit (wrap64)
theorem Pure.ItemsRight (l : List api_Item) (_ : okT (.row false tItem) l) : ∃ k, regletlaw07_ItemsRight.f k l = some true := by
  refine Ev.rounds (Ev.bind awake07_ev (Ev.bn rfl ?_))
  refine Ev.bind (Right_ev l) (Ev.bind (rRight_ev l) ?_)
  have R := Right_ev l
  cases e : isTrue (RightI l) with
  | true =>
    rw [e, if_pos rfl] at R
    rw [if_pos rfl]
    refine Ev.dp (by decide) (Ev.bind R (Ev.bind (rRight_ev l) (Ev.some_ ?_)))
    rw [e]; decide
  | false =>
    rw [e, if_neg Bool.false_ne_true] at R
    rw [if_neg Bool.false_ne_true]
    refine Ev.dp (by decide) (Ev.bind R (Ev.bind (rRight_ev l) (Ev.some_ ?_)))
    rw [e]; decide
end Go.Proofs.Ytkkhgbcmjeaghaa.Vm
