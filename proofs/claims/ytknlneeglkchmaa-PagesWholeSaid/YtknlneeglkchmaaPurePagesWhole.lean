/- Every line is on one page, in order; no page is empty; each ends where it may. -/
import Derived.Test.YtknlneeglkchmaaPx11
import Derived.Test.YtknlneeglkchmaaPg3
namespace Go.Proofs.Ytknlneeglkchmaa.Pure
open Go.RowKit Go.Proofs.YtknlneeglkchmaaW.PrintWords Go.Proofs.YtknlneeglkchmaaW.PrintLast
open Go.Proofs.Ytknlneeglkchmaa.P
/-- what is known of each page's first line -/
theorem chain_at {l : List S42} {o w h a : Int} {s : List Int} (c : Chain l o w h a s) : ∀ i : Int, 0 ≤ i → i < s.length →
    a ≤ rd s i ∧ rd s i < l.length ∧ (i = 0 → rd s i = a) ∧ (0 < i → rd s (i - 1) < rd s i ∧ CutL l o w (rd s i)) := by
  induction c with
  | done h => intro i h0 h1; simp at h1; omega
  | more h0 hlt n c ih =>
    rename_i a r s
    intro i i0 i1
    by_cases e : i = 0
    · subst e
      exact ⟨Int.le_refl _, hlt, fun _ => rfl, fun h => by omega⟩
    · have cons : ∀ j : Int, 0 < j → rd (a :: s) j = rd s (j - 1) := by
        intro j hj
        unfold rd
        rw [show j.toNat = (j - 1).toNat + 1 by omega]; rfl
      simp only [List.length_cons] at i1
      obtain ⟨p1, p2, p3, p4⟩ := ih (i - 1) (by omega) (by omega)
      have := n.lt
      rw [cons i (by omega)]
      refine ⟨by omega, p2, fun h => absurd h e, fun _ => ?_⟩
      by_cases e1 : i = 1
      · subst e1
        have q := p3 rfl
        rw [q]
        exact ⟨by show a < r; omega, n.cut⟩
      · rw [cons (i - 1) (by omega)]
        exact p4 (by omega)
theorem PagesWhole : ∀ (l0 : List (S42)) (a1 : Int) (a2 : S24), (OkList 32 ok42) l0 → (fun n => (Lit.int .i64 n).wf = true) a1 → ok24 a2 → ∃ k, regletlaw12_PagesWhole.f k l0 a1 a2.f0 a2.f1 a2.f2 a2.f3 a2.f4 a2.f5 a2.f6 = some true := by
  intro l h s hl _ _
  have hw := wf_of hl
  refine Ev.rounds (Ev.bind awake_ev (Ev.ifp rfl (Ev.bind (tried_ev hw h s.f0 s.f1 s.f2 s.f3 s.f4 s.f5 s.f6) (Ev.ifc (fun c => ?_) (fun _ => Ev.now _)))))
  obtain ⟨c1, c2, c34⟩ := isTrue_iff.1 c
  have hf := few_of c1
  obtain ⟨g, hc, e1, _⟩ := pages_Paginate_yes hw hf c34 c2
  have hat := chain_at hc
  have hlen := hc.length_le
  refine Ev.bind e1 (Ev.ifp rfl (regletlaw12_PagesWhole.j0.ev (Ev.ifn ?_ ?_)))
  · have : (g.length : Int) = 0 ↔ (l.length : Int) = 0 := by
      cases hc with
      | done h => simp only [List.length_nil]; omega
      | more h0 h n c => simp only [List.length_cons]; omega
    by_cases q : (l.length : Int) = 0
    · simp [this.2 q, q]
    · have := mt this.1 q
      rw [beq_eq_false_iff_ne.2 this, beq_eq_false_iff_ne.2 q]; simp
  · have loop : ∀ (d : Nat) (i : Int), 0 ≤ i → i + d = g.length → Ev (fun k => regletlaw12_PagesWhole.l0 k l g i s.f0 s.f1 s.f2 s.f3 s.f4 s.f5 s.f6) true := by
      intro d
      induction d with
      | zero => intro i h0 hi; exact regletlaw12_PagesWhole.l0.ev (Ev.ifn (by omega) (Ev.now _))
      | succ d ih =>
        intro i h0 hi
        obtain ⟨p1, p2, p3, p4⟩ := hat i h0 (by omega)
        have j2 : ∀ b, b = false → Ev (fun k => regletlaw12_PagesWhole.j2 k l g i b s.f0 s.f1 s.f2 s.f3 s.f4 s.f5 s.f6) true := by
          intro b hb
          subst hb
          have nx : Ev (fun k => regletlaw12_PagesWhole.l0 k l g (wrap64 (i + 1)) s.f0 s.f1 s.f2 s.f3 s.f4 s.f5 s.f6) true := by
            rw [w64 (x := i + 1) (by omega) (by omega)]
            exact ih (i + 1) (by omega) (by omega)
          refine regletlaw12_PagesWhole.j2.ev (Ev.ifn (by simp) (Ev.ifc (fun q => ?_) (fun _ => nx)))
          exact Ev.ifp h0 (Ev.ifp (by omega) (Ev.bind (Ev.opt (ref_Cut_eq hw c2 (by omega) (by omega) _ _ _ _ _ _ _)) (Ev.ifp (isTrue_yes (p4 q).2) nx)))
        have nge : decide (rd g i ≥ (l.length : Int)) = false := decide_eq_false (by omega)
        refine regletlaw12_PagesWhole.l0.ev (Ev.ifp (by omega) (Ev.ifc (fun q => ?_) (fun q => ?_)))
        · exact Ev.ifp h0 (Ev.ifp (p3 q) (Ev.ifn (by omega) (j2 _ nge)))
        · refine Ev.ifp (by omega) (Ev.ifp h0 ?_)
          rw [w64 (x := i - 1) (by omega) (by omega)]
          have := (p4 (by omega)).1
          exact Ev.ifp (by omega) (Ev.ifp (by omega) (Ev.ifn (by omega) (j2 _ nge)))
    exact loop g.length 0 (by omega) (by omega)
end Go.Proofs.Ytknlneeglkchmaa.Pure
