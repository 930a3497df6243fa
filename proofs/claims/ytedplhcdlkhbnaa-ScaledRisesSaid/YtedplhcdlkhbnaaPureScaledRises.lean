/- Badness doesn't fall where more is asked, nor where less is given. -/
import Derived.Test.YtedplhcdlkhbnaaPx6
import Derived.Test.YtedplhcdlkhbnaaSc2
import Derived.Test.YtedplhcdlkhbnaaOpened
namespace Go.Proofs.Ytedplhcdlkhbnaa.Pure
open Go.RowKit Go.Proofs.YtedplhcdlkhbnaaW.PrintWords Go.Proofs.YtedplhcdlkhbnaaW.PrintLast
open Go.Proofs.Ytedplhcdlkhbnaa.P
open Go.Proofs.Ytedplhcdlkhbnaa.BadM
theorem ScaledRises : ∀ (a0 : Int) (a1 : Int) (a2 : Int), (fun n => (Lit.int .i64 n).wf = true) a0 → (fun n => (Lit.int .i64 n).wf = true) a1 → (fun n => (Lit.int .i64 n).wf = true) a2 → ∃ k, regletlaw01_ScaledRises.f k a0 a1 a2 = some true := by
  intro a m b _ _ _
  have ha := clamp_le a
  have ha' := clamp_ge a
  have hb := clamp_le b
  have hb' := clamp_ge b
  have hm := clamp_le m
  have hm' := clamp_ge m
  have h0 := scaled_Bad_ev (clamp a) (clamp b)
  rw [clamp_clamp, clamp_clamp] at h0
  refine Ev.rounds (Ev.bind awake_ev (Ev.ifp rfl (Ev.bind (Ev.opt (ref_Clamp_eq a)) (Ev.bind (Ev.opt (ref_Clamp_eq m)) (Ev.bind (Ev.opt (ref_Clamp_eq b)) (Ev.bind h0 ?_))))))
  have hr := bad_range (clamp a) (clamp b)
  refine Ev.ifn (by omega) (Ev.ifn (by omega) (regletlaw01_ScaledRises.j0.ev (Ev.ifc (fun c => Ev.some_ (by simpa using c)) (fun c => ?_))))
  have c : ¬ clamp m < 0 := fun h => c (decide_eq_true h)
  have h1 := scaled_Bad_ev (clamp a + clamp m) (clamp b)
  have h2 := scaled_Bad_ev (clamp a) (clamp b - clamp m)
  rw [clamp_clamp] at h1 h2
  rw [w64 (x := clamp a + clamp m) (by omega) (by omega), w64 (x := clamp b - clamp m) (by omega) (by omega)]
  have g1 := bad_t (s := clamp b) (clamp_mono (show clamp a ≤ clamp a + clamp m by omega))
  have g2 := bad_s (t := clamp a) (clamp_mono (show clamp b - clamp m ≤ clamp b by omega))
  rw [clamp_clamp] at g1 g2
  refine Ev.bind h1 (Ev.ifp g1 (Ev.bind h2 (Ev.ifp g2 (Ev.ifc (fun _ => Ev.now _) (fun p => Ev.ifc (fun _ => Ev.now _) (fun q => Ev.some_ ?_))))))
  have := bad_hundred (t := clamp a) (s := clamp b) (by omega) (by omega)
  simp only [ge_iff_le, beq_iff_eq, decide_eq_decide]
  exact this
end Go.Proofs.Ytedplhcdlkhbnaa.Pure
