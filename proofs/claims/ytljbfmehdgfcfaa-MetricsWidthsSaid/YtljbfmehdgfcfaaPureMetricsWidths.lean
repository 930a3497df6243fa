/- Every rune in every style of a right table is as wide as the reference says. -/
import Derived.Test.YtljbfmehdgfcfaaPx17
import Derived.Test.YtljbfmehdgfcfaaMt3
namespace Go.Proofs.Ytljbfmehdgfcfaa.Pure
open Go.RowKit Go.Proofs.YtljbfmehdgfcfaaW.PrintWords Go.Proofs.YtljbfmehdgfcfaaW.PrintLast
open Go.Proofs.Ytljbfmehdgfcfaa.P
theorem MetricsWidths : ∀ (l0 : List (S46)) (a1 : Int) (a2 : Int), (OkList 80 ok46) l0 → (fun n => (Lit.int .i64 n).wf = true) a1 → (fun n => (Lit.int .i32 n).wf = true) a2 → ∃ k, regletlaw04_MetricsWidths.f k l0 a1 a2 = some true := by
  intro l n r hl _ hr
  have hr : -2147483648 ≤ r ∧ r ≤ 2147483647 := by simp [Lit.wf, IntKind.min, IntKind.max, IntKind.signed, IntKind.bits] at hr; omega
  refine Ev.rounds (Ev.bind awake_ev (Ev.ifp rfl (Ev.bind (table_ev l) ?_)))
  by_cases h : (chkL l).1 = 0
  · simp only [h, decide_true, if_true]
    obtain ⟨_, _, hk⟩ := chkL_ok h
    rw [w64 (by omega) (by omega)]
    exact Ev.bind (Width_ev hk n hr) (Ev.bind (refWidth_ev hk n r) (Ev.some_ (by simp)))
  · simp only [h, decide_false, if_false]
    exact Ev.ifn (by simp) (Ev.now _)
end Go.Proofs.Ytljbfmehdgfcfaa.Pure
