/- Quotients rounded down and their rests are exact for any two numbers: the program's are the reference's. -/
import Derived.Test.YtedplhcdlkhbnaaPx8
import Derived.Test.YtedplhcdlkhbnaaSc3
import Derived.Test.YtedplhcdlkhbnaaOpened
namespace Go.Proofs.Ytedplhcdlkhbnaa.Pure
open Go.RowKit Go.Proofs.YtedplhcdlkhbnaaW.PrintWords Go.Proofs.YtedplhcdlkhbnaaW.PrintLast
open Go.Proofs.Ytedplhcdlkhbnaa.P
theorem ScaledDivides : ∀ (a0 : Int) (a1 : Int), (fun n => (Lit.int .i64 n).wf = true) a0 → (fun n => (Lit.int .i64 n).wf = true) a1 → ∃ k, regletlaw01_ScaledDivides.f k a0 a1 = some true := by
  intro a b _ _
  have e : (modM a b).2 = (divM a b).2 := by
    unfold modM
    cases h : (divM a b).2
    · simp
    · simp
  refine Ev.rounds (Ev.bind awake_ev (Ev.ifp rfl (Ev.bind (Ev.opt (scaled_Div_eq a b)) (Ev.bind (Ev.opt (scaled_Mod_eq a b)) (Ev.bind (ref_Div_ev a b) (Ev.bind (ref_Mod_ev a b) ?_))))))
  exact Ev.ifp rfl (Ev.ifp (by simp) (Ev.ifp rfl (Ev.some_ (by rw [e]; simp))))
end Go.Proofs.Ytedplhcdlkhbnaa.Pure
