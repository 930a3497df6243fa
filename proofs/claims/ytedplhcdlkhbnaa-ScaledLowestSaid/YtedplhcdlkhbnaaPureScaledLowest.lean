/- Fractions are brought into lowest terms, with the second number above 0: the program's are the reference's. -/
import Derived.Test.YtedplhcdlkhbnaaPx15
import Derived.Test.YtedplhcdlkhbnaaSc5
import Derived.Test.YtedplhcdlkhbnaaOpened
namespace Go.Proofs.Ytedplhcdlkhbnaa.Pure
open Go.RowKit Go.Proofs.YtedplhcdlkhbnaaW.PrintWords Go.Proofs.YtedplhcdlkhbnaaW.PrintLast
open Go.Proofs.Ytedplhcdlkhbnaa.P
theorem ScaledLowest : ∀ (a0 : Int) (a1 : Int), (fun n => (Lit.int .i64 n).wf = true) a0 → (fun n => (Lit.int .i64 n).wf = true) a1 → ∃ k, regletlaw01_ScaledLowest.f k a0 a1 = some true := by
  intro a b _ _
  exact Ev.rounds (Ev.bind awake_ev (Ev.ifp rfl (Ev.bind (scaled_Lowest_ev a b) (Ev.bind (ref_Lowest_ev a b) (Ev.ifp rfl (Ev.ifp rfl (Ev.bind (scaled_Gcd_ev a b) (Ev.bind (ref_Gcd_ev a b) (Ev.ifp rfl (Ev.some_ (decide_eq_true (low_pos a b))))))))))))
end Go.Proofs.Ytedplhcdlkhbnaa.Pure
