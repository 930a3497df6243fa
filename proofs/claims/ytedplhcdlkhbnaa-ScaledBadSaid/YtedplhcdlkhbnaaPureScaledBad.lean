/- Badness is what the page says: the program's is the reference's, for any two numbers. -/
import Derived.Test.YtedplhcdlkhbnaaPx5
import Derived.Test.YtedplhcdlkhbnaaSc2
import Derived.Test.YtedplhcdlkhbnaaOpened
namespace Go.Proofs.Ytedplhcdlkhbnaa.Pure
open Go.RowKit Go.Proofs.YtedplhcdlkhbnaaW.PrintWords Go.Proofs.YtedplhcdlkhbnaaW.PrintLast
open Go.Proofs.Ytedplhcdlkhbnaa.P
theorem ScaledBad : ∀ (a0 : Int) (a1 : Int), (fun n => (Lit.int .i64 n).wf = true) a0 → (fun n => (Lit.int .i64 n).wf = true) a1 → ∃ k, regletlaw01_ScaledBad.f k a0 a1 = some true := by
  intro a b _ _
  exact Ev.rounds (Ev.bind awake_ev (Ev.ifp rfl (Ev.bind (scaled_Bad_ev a b) (Ev.bind (ref_Bad_ev a b) (Ev.some_ (by simp))))))
end Go.Proofs.Ytedplhcdlkhbnaa.Pure
