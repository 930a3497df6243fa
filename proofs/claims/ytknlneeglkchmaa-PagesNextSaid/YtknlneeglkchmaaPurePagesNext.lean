/- From any line on, of lines that may be, pages.Next takes what the reference takes. -/
import Derived.Test.YtknlneeglkchmaaPx10
import Derived.Test.YtknlneeglkchmaaPg3
namespace Go.Proofs.Ytknlneeglkchmaa.Pure
open Go.RowKit Go.Proofs.YtknlneeglkchmaaW.PrintWords Go.Proofs.YtknlneeglkchmaaW.PrintLast
open Go.Proofs.Ytknlneeglkchmaa.P
theorem PagesNext : ∀ (l0 : List (S42)) (a1 : S37) (a2 : S24), (OkList 32 ok42) l0 → ok37 a1 → ok24 a2 → ∃ k, regletlaw12_PagesNext.f k l0 a1.f0 a1.f1 a2.f0 a2.f1 a2.f2 a2.f3 a2.f4 a2.f5 a2.f6 = some true := by
  intro l a s hl _ _
  have hw := wf_of hl
  have skip : ∀ b, b = true → Ev (fun k => regletlaw12_PagesNext.j0 k l a.f0 a.f1 b s.f0 s.f1 s.f2 s.f3 s.f4 s.f5 s.f6) true := fun b hb => regletlaw12_PagesNext.j0.ev (Ev.ifp hb (Ev.now _))
  refine Ev.rounds (Ev.bind awake_ev (Ev.ifp rfl (Ev.bind (tried_ev hw a.f1 s.f0 s.f1 s.f2 s.f3 s.f4 s.f5 s.f6) (Ev.ifc (fun c => ?_) (fun _ => skip _ rfl)))))
  obtain ⟨c1, c2, c3, c4⟩ := isTrue_iff.1 c
  have hf := few_of c1
  refine Ev.ifc (fun _ => skip _ rfl) (fun d => regletlaw12_PagesNext.j0.ev (Ev.ifc (fun _ => Ev.now _) (fun e => ?_)))
  have e : ¬ a.f0 > l.length := fun h => e (decide_eq_true h)
  by_cases q : a.f0 = l.length
  · rw [q]
    refine Ev.bind (pages_Next_end _ _ _ _ _ _ _ _) (Ev.bind (ref_Next_end hf _ _ _ _ _ _ _ _) (Ev.some_ ?_))
    simp
  · obtain ⟨r, hr1, hr2⟩ := pages_Next_ev hw hf c2 a.f1 (by omega) (show a.f0 < l.length by omega) s.f0 s.f1 s.f2 s.f3 s.f4 s.f5 s.f6
    obtain ⟨r', hr3, hr4⟩ := ref_Next_ev hw hf c2 a.f1 (by omega) (show a.f0 < l.length by omega) s.f0 s.f1 s.f2 s.f3 s.f4 s.f5 s.f6
    obtain rfl := hr1.uniq hr3
    refine Ev.bind hr2 (Ev.bind hr4 (Ev.some_ ?_))
    simp
end Go.Proofs.Ytknlneeglkchmaa.Pure
