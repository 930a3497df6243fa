/- Costs together are at most the most that there is, in any order. -/
import Derived.Test.YtdkmmddakidieaaPx6
import Derived.Test.YtdkmmddakidieaaPx7
import Derived.Test.YtdkmmddakidieaaMes
import Derived.Test.YtdkmmddakidieaaOpened
namespace Go.Proofs.Ytdkmmddakidieaa.Pure
open Go.RowKit Go.Proofs.YtdkmmddakidieaaW.PrintWords Go.Proofs.YtdkmmddakidieaaW.PrintLast Go.Proofs.YtdkmmddakidieaaW.PrintMore
open Go.Proofs.Ytdkmmddakidieaa.P
theorem MeasureTotals : ∀ (a0 : Int) (a1 : Int) (a2 : Int), (fun n => (Lit.int .i64 n).wf = true) a0 → (fun n => (Lit.int .i64 n).wf = true) a1 → (fun n => (Lit.int .i64 n).wf = true) a2 → ∃ k, regletlaw08_MeasureTotals.f k a0 a1 a2 = some true := by
  intro a b c _ _ _
  have t : ∀ x y, Ev (fun _ : Nat => measure_Total.f x y) (totM x y) := fun x y => Ev.opt (measure_Total_eq x y)
  refine Ev.rounds (Ev.bind awake_ev (Ev.ifp rfl (Ev.bind (t a b) (Ev.bind (Ev.opt (ref_Total_eq a b)) (Ev.ifp rfl (Ev.bind (t b a) (Ev.bind (t a b) ?_)))))))
  have e : (totM b a != totM a b) = false := by rw [totM_comm b a]; simp
  rw [e]
  have neg : Ev (fun k => regletlaw08_MeasureTotals.j1 k a b c true) true := regletlaw08_MeasureTotals.j1.ev (Ev.ifp rfl (Ev.now _))
  refine regletlaw08_MeasureTotals.j0.ev (Ev.ifn (by simp) (Ev.ifc (fun _ => neg) (fun ha => Ev.ifc (fun _ => neg) (fun hb => ?_))))
  refine regletlaw08_MeasureTotals.j1.ev (Ev.ifc (fun _ => Ev.now _) (fun hc => Ev.bind (t _ _) (Ev.bind (t _ _) (Ev.bind (t _ _) (Ev.bind (t _ _) (Ev.some_ ?_))))))
  have hc : ¬ c < 0 := fun h => hc (decide_eq_true h)
  rw [totM_assoc (by omega) (by omega) (by omega)]; simp
end Go.Proofs.Ytdkmmddakidieaa.Pure
