/- Any settings may be, or not: the program's check is the reference's. -/
import Derived.Test.YtdkmmddakidieaaPx8
import Derived.Test.YtdkmmddakidieaaPx9
import Derived.Test.YtdkmmddakidieaaPx10
import Derived.Test.YtdkmmddakidieaaMes
import Derived.Test.YtdkmmddakidieaaOpened
namespace Go.Proofs.Ytdkmmddakidieaa.Pure
open Go.RowKit Go.Proofs.YtdkmmddakidieaaW.PrintWords Go.Proofs.YtdkmmddakidieaaW.PrintLast Go.Proofs.YtdkmmddakidieaaW.PrintMore
open Go.Proofs.Ytdkmmddakidieaa.P
theorem MeasureChecks : ∀ (a0 : S26), ok26 a0 → ∃ k, regletlaw08_MeasureChecks.f k a0.f0 a0.f1 a0.f2 a0.f3 a0.f4 a0.f5 a0.f6 = some true := by
  intro x _
  have u : Ev (fun k => measure_Check.f k 200 10 10000 10000 5000 2 2) 0 := Ev.lift (measure_Check_ev 200 10 10000 10000 5000 2 2) (by decide +kernel)
  have go : ∀ (v : Int) (q : Bool), Ev (fun k => measure_Check.f k x.f0 x.f1 x.f2 x.f3 x.f4 x.f5 x.f6) v → Ev (fun k => regletref08_Settings.f k x.f0 x.f1 x.f2 x.f3 x.f4 x.f5 x.f6) q → ((v == 0) == q) = true → ((v == 80) == !q) = true → ∃ k, regletlaw08_MeasureChecks.f k x.f0 x.f1 x.f2 x.f3 x.f4 x.f5 x.f6 = some true := by
    intro v q c r h1 h2
    exact Ev.rounds (Ev.bind awake_ev (Ev.ifp rfl (Ev.bind c (Ev.bind r (Ev.ifp h1 (Ev.bind r (Ev.ifp h2 (Ev.bind (Ev.now _) (Ev.bind u (Ev.some_ rfl))))))))))
  have c := measure_Check_ev x.f0 x.f1 x.f2 x.f3 x.f4 x.f5 x.f6
  have r := ref_Settings_ev x.f0 x.f1 x.f2 x.f3 x.f4 x.f5 x.f6
  by_cases p : SetOk x.f0 x.f1 x.f2 x.f3 x.f4 x.f5 x.f6
  · rw [if_pos p] at c
    rw [decide_eq_true p] at r
    exact go _ _ c r rfl rfl
  · rw [if_neg p] at c
    rw [decide_eq_false p] at r
    exact go _ _ c r rfl rfl
end Go.Proofs.Ytdkmmddakidieaa.Pure
