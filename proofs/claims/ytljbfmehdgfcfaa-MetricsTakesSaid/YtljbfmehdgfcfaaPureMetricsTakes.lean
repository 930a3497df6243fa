/- Any styles are taken by metrics.New, or refused for the fault and the place that the reference tells. -/
import Derived.Test.YtljbfmehdgfcfaaPx13
import Derived.Test.YtljbfmehdgfcfaaMt
namespace Go.Proofs.Ytljbfmehdgfcfaa.Pure
open Go.RowKit Go.Proofs.YtljbfmehdgfcfaaW.PrintWords Go.Proofs.YtljbfmehdgfcfaaW.PrintLast
open Go.Proofs.Ytljbfmehdgfcfaa.P
theorem MetricsTakes : ∀ (l0 : List (S46)), (OkList 80 ok46) l0 → ∃ k, regletlaw04_MetricsTakes.f k l0 = some true := by
  intro l hl
  refine Ev.rounds (Ev.bind awake_ev (Ev.ifp rfl (Ev.bind (New_ev l) ?_)))
  by_cases h : (chkL l).1 = 0
  · simp only [h, decide_true, if_true]
    refine Ev.bind (refCheck_ev l) (Ev.ifp h.symm (Ev.ifp rfl (Ev.ifn (by simp [h]) ?_)))
    refine Ev.bind (Ev.opt rfl) (Ev.some_ (by simp))
  · simp only [h, decide_false, if_false]
    refine Ev.ifn (by simp) (Ev.bind (refCheck_ev l) (Ev.ifp rfl (Ev.ifp rfl (Ev.ifn (by simp [h]) (Ev.now _)))))
end Go.Proofs.Ytljbfmehdgfcfaa.Pure
