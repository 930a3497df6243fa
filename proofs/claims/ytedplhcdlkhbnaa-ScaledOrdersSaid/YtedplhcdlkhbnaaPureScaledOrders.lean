/- Of two fractions the less one is told; and one is less than another just if that isn't less, and they aren't alike. -/
import Derived.Test.YtedplhcdlkhbnaaPx19
import Derived.Test.YtedplhcdlkhbnaaSc5
import Derived.Test.YtedplhcdlkhbnaaOpened
namespace Go.Proofs.Ytedplhcdlkhbnaa.Pure
open Go.RowKit Go.Proofs.YtedplhcdlkhbnaaW.PrintWords Go.Proofs.YtedplhcdlkhbnaaW.PrintLast
open Go.Proofs.Ytedplhcdlkhbnaa.P
open Go.Proofs.Ytedplhcdlkhbnaa.BadM (clamp)
theorem ScaledOrders : ∀ (a0 : S35), ok35 a0 → ∃ k, regletlaw01_ScaledOrders.f k a0.f0 a0.f1 a0.f2 a0.f3 = some true := by
  intro x _
  obtain ⟨a, b, c, d⟩ := x
  have skip : ∀ v, v = true → Ev (fun k => regletlaw01_ScaledOrders.j0 k a b c d v) true := fun v hv => regletlaw01_ScaledOrders.j0.ev (Ev.ifp hv (Ev.now _))
  refine Ev.rounds (Ev.bind awake_ev (Ev.ifp rfl (Ev.ifc (fun _ => skip _ rfl) (fun hb => regletlaw01_ScaledOrders.j0.ev (Ev.ifc (fun _ => Ev.now _) (fun hd => ?_))))))
  have hb : 0 < b := Int.not_le.1 hb
  have hd : 0 < d := by
    apply Int.not_le.1
    intro h
    exact hd (decide_eq_true h)
  have hb' := (sign_clamp b).2.1 hb
  have hd' := (sign_clamp d).2.1 hd
  refine Ev.bind (scaled_Less_ev hb hd) (Ev.bind (scaled_Less_ev hd hb) (Ev.bind (scaled_Lowest_ev a b) (Ev.bind (scaled_Lowest_ev c d) (Ev.bind (ref_Less_ev hb hd) (Ev.ifp (by simp) ?_)))))
  have iff := low_iff (a := a) (c := c) hb' hd'
  unfold lessM
  generalize hl : lowM a b = p at *
  generalize hk : lowM c d = q at *
  obtain ⟨p1, p2⟩ := p
  obtain ⟨q1, q2⟩ := q
  rw [Prod.mk.injEq] at iff
  generalize clamp a * clamp d = u at *
  generalize clamp c * clamp b = v at *
  show Ev (fun _ : Nat => if p1 = q1 then _ else _) true
  by_cases e : p1 = q1
  · refine Ev.ifp e ?_
    rcases Int.lt_trichotomy u v with h | h | h
    · have n2 : ¬ p2 = q2 := fun h2 => by have := iff.1 ⟨e, h2⟩; omega
      refine Ev.ifp (decide_eq_true h) (Ev.ifp (by simpa using n2) (Ev.some_ ?_))
      simp; omega
    · have y2 : p2 = q2 := (iff.2 h).2
      refine Ev.ifn (by simp; omega) (Ev.ifp ?_ (Ev.some_ rfl))
      simp [y2]; omega
    · have n2 : ¬ p2 = q2 := fun h2 => by have := iff.1 ⟨e, h2⟩; omega
      refine Ev.ifn (by simp; omega) (Ev.ifp ?_ (Ev.some_ rfl))
      rw [beq_false_of_ne n2, decide_eq_true h]; rfl
  · refine Ev.ifn e ?_
    have ne : u ≠ v := fun h => e (iff.2 h).1
    by_cases h : u < v
    · refine Ev.ifp (decide_eq_true h) (Ev.ifp rfl (Ev.some_ ?_))
      simp; omega
    · refine Ev.ifn (by simpa using h) (Ev.ifp ?_ (Ev.some_ rfl))
      simp; omega
end Go.Proofs.Ytedplhcdlkhbnaa.Pure
