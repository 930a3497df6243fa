/- For any lines, height and settings: pages.Paginate lays what the reference lays, or refuses with the error that the page says. -/
import Derived.Test.YtknlneeglkchmaaPx4
import Derived.Test.YtknlneeglkchmaaPx9
import Derived.Test.YtknlneeglkchmaaPg3
namespace Go.Proofs.Ytknlneeglkchmaa.Pure
open Go.RowKit Go.Proofs.YtknlneeglkchmaaW.PrintWords Go.Proofs.YtknlneeglkchmaaW.PrintLast
open Go.Proofs.Ytknlneeglkchmaa.P
theorem laid_j0 {l : List S42} (hw : Wf l) {h s0 s1 s2 s3 s4 s5 s6 e : Int} {g : List Int} {b : Bool} (hb : b = true ↔ ¬ HgtOk h)
    (h1 : ¬ (HgtOk h ∧ SetOk s0 s1 s2 s3 s4 s5 s6) → g = [] ∧ e = errC h (SetOk s0 s1 s2 s3 s4 s5 s6))
    (h2 : HgtOk h ∧ SetOk s0 s1 s2 s3 s4 s5 s6 → ¬ RightL l → g = [] ∧ e = 1)
    (h3 : HgtOk h ∧ SetOk s0 s1 s2 s3 s4 s5 s6 → RightL l → e = 0 ∧ (g.length : Int) ≤ 4611686018427387904 ∧ Ev (fun k => regletref12_Paginate.f k l h s0 s1 s2 s3 s4 s5 s6) g) :
    Ev (fun k => regletlaw12_PagesLaid.j0 k l h g e b s0 s1 s2 s3 s4 s5 s6) true := by
  refine regletlaw12_PagesLaid.j0.ev (Ev.ifc (fun c => ?_) (fun c => ?_))
  · have n := hb.1 c
    obtain ⟨rfl, rfl⟩ := h1 (fun q => n q.1)
    rw [errC_no n]
    refine Ev.ifp rfl (Ev.ifp rfl (Ev.bind (pages_Check_ev h s0 s1 s2 s3 s4 s5 s6) (Ev.some_ ?_)))
    rw [errC_no n]; rfl
  · have y : HgtOk h := Classical.byContradiction (fun n => c (hb.2 n))
    refine Ev.bind (ref_Check_ev h s0 s1 s2 s3 s4 s5 s6) (Ev.ifc (fun d => ?_) (fun d => ?_))
    · have d := isTrue_iff.1 d
      refine Ev.bind (ref_Right_ev hw) (Ev.ifc (fun q => ?_) (fun q => ?_))
      · have q := isTrue_iff.1 q
        obtain ⟨rfl, hl, hp⟩ := h3 d q
        exact Ev.ifp rfl (Ev.bind (pages_Right_ev hw) (Ev.ifp (errOf_yes q) (Ev.bind hp (Ev.bind (same_ev g g hl) (Ev.some_ (isTrue_yes rfl))))))
      · have q : ¬ RightL l := fun h => q (isTrue_yes h)
        obtain ⟨rfl, rfl⟩ := h2 d q
        refine Ev.ifp rfl (Ev.ifp rfl (Ev.bind (pages_Right_ev hw) (Ev.some_ ?_)))
        rw [errOf_no q]; rfl
    · have d : ¬ (HgtOk h ∧ SetOk s0 s1 s2 s3 s4 s5 s6) := fun h => d (isTrue_yes h)
      have d' : ¬ SetOk s0 s1 s2 s3 s4 s5 s6 := fun q => d ⟨y, q⟩
      obtain ⟨rfl, rfl⟩ := h1 d
      rw [errC_yes y, errS_no d']
      refine Ev.ifp rfl (Ev.ifp rfl (Ev.bind (pages_Check_ev h s0 s1 s2 s3 s4 s5 s6) (Ev.some_ ?_)))
      rw [errC_yes y, errS_no d']; rfl
theorem PagesLaid : ∀ (l0 : List (S42)) (a1 : Int) (a2 : S24), (OkList 32 ok42) l0 → (fun n => (Lit.int .i64 n).wf = true) a1 → ok24 a2 → ∃ k, regletlaw12_PagesLaid.f k l0 a1 a2.f0 a2.f1 a2.f2 a2.f3 a2.f4 a2.f5 a2.f6 = some true := by
  intro l h s hl _ _
  have hw := wf_of hl
  refine Ev.rounds (Ev.bind awake_ev (Ev.ifp rfl (Ev.ifc (fun _ => Ev.now _) (fun c => ?_))))
  have hf : Few l := few_of (by omega)
  have go : ∀ {g : List Int} {e : Int}, Ev (fun k => pages_Paginate.f k l h s.f0 s.f1 s.f2 s.f3 s.f4 s.f5 s.f6) (g, e) →
      (∀ b, (b = true ↔ ¬ HgtOk h) → Ev (fun k => regletlaw12_PagesLaid.j0 k l h g e b s.f0 s.f1 s.f2 s.f3 s.f4 s.f5 s.f6) true) →
      Ev (fun k => (pages_Paginate.f k l h s.f0 s.f1 s.f2 s.f3 s.f4 s.f5 s.f6).bind fun bt192 => (if h < 1 then (regletlaw12_PagesLaid.j0 k l h bt192.1 bt192.2 true s.f0 s.f1 s.f2 s.f3 s.f4 s.f5 s.f6) else (regletlaw12_PagesLaid.j0 k l h bt192.1 bt192.2 (decide (h > 1073741824)) s.f0 s.f1 s.f2 s.f3 s.f4 s.f5 s.f6))) true := by
    intro g e h1 h2
    refine Ev.bind h1 (Ev.ifc (fun c => h2 true ⟨fun _ => by unfold HgtOk; omega, fun _ => rfl⟩) (fun c => h2 _ ⟨fun d => ?_, fun d => ?_⟩))
    · have := of_decide_eq_true d; unfold HgtOk; omega
    · apply decide_eq_true; unfold HgtOk at d; omega
  by_cases c1 : HgtOk h ∧ SetOk s.f0 s.f1 s.f2 s.f3 s.f4 s.f5 s.f6
  · by_cases c2 : RightL l
    · obtain ⟨g, hc, e1, e2⟩ := pages_Paginate_yes hw hf c1 c2
      have := hc.length_le
      have := hw.1
      exact go e1 (fun b hb => laid_j0 hw hb (fun n => absurd c1 n) (fun _ n => absurd c2 n) (fun _ _ => ⟨rfl, by omega, e2⟩))
    · exact go (pages_Paginate_wrong hw c1 c2) (fun b hb => laid_j0 hw hb (fun n => absurd c1 n) (fun _ _ => ⟨rfl, rfl⟩) (fun _ n => absurd n c2))
  · exact go (pages_Paginate_no l c1) (fun b hb => laid_j0 hw hb (fun _ => ⟨rfl, rfl⟩) (fun n => absurd n c1) (fun n => absurd n c1))
end Go.Proofs.Ytknlneeglkchmaa.Pure
