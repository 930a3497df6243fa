/- A product by a third number is exact, however large: the program's is the reference's. -/
import Derived.Test.YtedplhcdlkhbnaaPx22
import Derived.Test.YtedplhcdlkhbnaaDv3
import Derived.Test.YtedplhcdlkhbnaaOpened
namespace Go.Proofs.Ytedplhcdlkhbnaa.Pure
open Go.RowKit Go.Proofs.YtedplhcdlkhbnaaW.PrintWords Go.Proofs.YtedplhcdlkhbnaaW.PrintLast
open Go.Proofs.Ytedplhcdlkhbnaa.P
theorem ScaledShares : ∀ (a0 : Int) (a1 : Int) (a2 : Int), (fun n => (Lit.int .i64 n).wf = true) a0 → (fun n => (Lit.int .i64 n).wf = true) a1 → (fun n => (Lit.int .i64 n).wf = true) a2 → ∃ k, regletlaw01_ScaledShares.f k a0 a1 a2 = some true := by
  intro a b c _ _ _
  refine Ev.rounds (Ev.bind awake_ev (Ev.ifp rfl (Ev.bind (scaled_MulDiv_ev a b c) (Ev.bind (ref_MulDiv_ev a b c) (Ev.bind (scaled_Scale_ev a b c) (Ev.ifp rfl (Ev.ifp (by simp) ?_)))))))
  refine Ev.ifc (fun h => ?_) (fun h => ?_)
  · exact Ev.ifp (if_neg (by omega)) (Ev.now _)
  · have h : c ≤ 0 := Int.not_lt.1 h
    exact Ev.ifp h (Ev.some_ (by rw [if_pos h]; rfl))
end Go.Proofs.Ytedplhcdlkhbnaa.Pure
