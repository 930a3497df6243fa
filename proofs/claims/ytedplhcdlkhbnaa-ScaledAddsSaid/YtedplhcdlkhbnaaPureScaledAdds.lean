/- Sums, differences and products of any two numbers are exact, or the greatest or least there is. -/
import Derived.Test.YtedplhcdlkhbnaaPx13
import Derived.Test.YtedplhcdlkhbnaaSc4
import Derived.Test.YtedplhcdlkhbnaaOpened
namespace Go.Proofs.Ytedplhcdlkhbnaa.Pure
open Go.RowKit Go.Proofs.YtedplhcdlkhbnaaW.PrintWords Go.Proofs.YtedplhcdlkhbnaaW.PrintLast
open Go.Proofs.Ytedplhcdlkhbnaa.P
open Go.Proofs.Ytedplhcdlkhbnaa.BadM (clamp clamp_le clamp_ge clamp_id)
theorem ScaledAdds : ∀ (a0 : Int) (a1 : Int), (fun n => (Lit.int .i64 n).wf = true) a0 → (fun n => (Lit.int .i64 n).wf = true) a1 → ∃ k, regletlaw01_ScaledAdds.f k a0 a1 = some true := by
  intro a b _ _
  have a1 := clamp_le a
  have a2 := clamp_ge a
  have b1 := clamp_le b
  have b2 := clamp_ge b
  refine Ev.rounds (Ev.bind awake_ev (Ev.ifp rfl (Ev.bind (Ev.opt (ref_Clamp_eq a)) (Ev.bind (Ev.opt (ref_Clamp_eq b)) (Ev.bind (Ev.opt (scaled_Clamp_eq a)) (Ev.ifp rfl (Ev.bind (Ev.opt (scaled_Neg_eq a)) ?_)))))))
  rw [w64 (x := -clamp a) (by omega) (by omega), w64 (x := clamp a - clamp b) (by omega) (by omega)]
  refine Ev.ifp rfl (Ev.bind (Ev.opt (scaled_Add_eq a b)) (Ev.bind (Ev.opt (ref_Add_eq a b)) (Ev.ifp rfl (Ev.bind (Ev.opt (scaled_Sub_eq a b)) (Ev.bind (Ev.opt (ref_Clamp_eq _)) (Ev.ifp rfl (Ev.bind (scaled_Mul_ev a b) (Ev.bind (ref_Mul_ev a b) (Ev.some_ (by simp))))))))))
end Go.Proofs.Ytedplhcdlkhbnaa.Pure
