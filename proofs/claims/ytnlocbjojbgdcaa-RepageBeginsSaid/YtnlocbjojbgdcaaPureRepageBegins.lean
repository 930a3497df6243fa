/- For any lines, a height and settings: a book is begun with the lines and the pages that the reference lays, or refused. -/
import Derived.Test.YtnlocbjojbgdcaaPd
namespace Go.Proofs.Ytnlocbjojbgdcaa.Vm
open Go
open _root_.Go.RowKit (wrap64)
theorem Pure.RepageBegins (s : regletlaw13_Start) (ok : okT y22 s) : ∃ k, regletlaw13_RepageBegins.f k s = some true := by
  obtain ⟨l, h, b⟩ := s
  have hw : Wf l := wf_of ok.1
  refine Ev.rounds (Ev.bind awake_ev (Ev.ifn (by simp) (Ev.dc (fun _ => Ev.now _) (fun c => ?_))))
  have hl : (l.length : Int) ≤ 150 := Int.not_lt.1 c
  have hf : Few l := few_of (by omega)
  have both : (∃ g e, e ≠ 0 ∧ Ev (fun k => pages_Paginate.f k l h b) (g, e)) ∨ ∃ g, Chain l b h 0 g ∧ Ev (fun k => pages_Paginate.f k l h b) (g, 0) ∧ Ev (fun k => regletref12_Paginate.f k l h b) g := by
    by_cases c1 : HgtOk h ∧ SetOk b
    · by_cases c2 : RightL l
      · exact .inr (pages_Paginate_yes hw hf c1 c2)
      · exact .inl ⟨_, _, by omega, pages_Paginate_wrong hw c1 c2⟩
    · exact .inl ⟨_, _, errC_bad c1, pages_Paginate_no l c1⟩
  rcases both with ⟨g, e, he, hp⟩ | ⟨g, hc, e1, e2⟩
  · refine Ev.bind (New_no he hp) (Ev.bind hp (Ev.xn rfl ?_))
    exact Ev.ifn (by simpa using he) (Ev.st (fun k => by rw [regletlaw13_RepageBegins.j0]; rfl) (Ev.now _))
  · have := hc.length_le
    refine Ev.bind (New_ok (by omega) e1) (Ev.bind e1 (Ev.xn rfl (Ev.ifn (by simp) (Ev.st (fun k => by rw [regletlaw13_RepageBegins.j0]) ?_))))
    refine Ev.bind (starts_ev (b := (l, g, h, b)) (by show g.length ≤ 1000000; omega)) (Ev.bind e2 (Ev.bind (same_ev g g (by omega)) (Ev.ifp (isTrue_yes rfl) ?_)))
    exact Ev.bind (slots_ev (b := (l, g, h, b)) (by show l.length ≤ 1000000; omega)) (Ev.bind (same13_ev l l (by omega)) (Ev.some_ (isTrue_yes rfl)))
end Go.Proofs.Ytnlocbjojbgdcaa.Vm
