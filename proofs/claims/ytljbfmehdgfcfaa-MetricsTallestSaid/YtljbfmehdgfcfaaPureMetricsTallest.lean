/- Of some runs the tallest style's height is what the reference tells. -/
import Derived.Test.YtljbfmehdgfcfaaPx26
import Derived.Test.YtljbfmehdgfcfaaPx27
import Derived.Test.YtljbfmehdgfcfaaPx28
import Derived.Test.YtljbfmehdgfcfaaMt2
namespace Go.Proofs.Ytljbfmehdgfcfaa.Pure
open Go.RowKit Go.Proofs.YtljbfmehdgfcfaaW.PrintWords Go.Proofs.YtljbfmehdgfcfaaW.PrintLast
open Go.Proofs.Ytljbfmehdgfcfaa.P
theorem Height_eq (l : List S46) (n : Int) : metrics_Table_Height.f l n = some (ofS l n).f0 := by
  unfold metrics_Table_Height.f; rw [of_eq]; rfl
theorem MetricsTallest : ∀ (l0 : List (S46)) (l1 : List (S74)), (OkList 80 ok46) l0 → (OkList 16 ok74) l1 → ∃ k, regletlaw04_MetricsTallest.f k l0 l1 = some true := by
  intro l q hl hq
  have hq : q.length * 16 ≤ 140737488351232 := hq.1
  refine Ev.rounds (Ev.bind awake_ev (Ev.ifp rfl (Ev.bind (table_ev l) ?_)))
  by_cases h : (chkL l).1 = 0
  · simp only [h, decide_true, if_true]
    have both : ∀ (d i : Nat) (m : Int), i + d = q.length → ∃ r, Ev (fun k => metrics_Table_Tallest.l0 k m q (q.length : Int) (i : Int) l) r ∧ Ev (fun k => regletref04_Tallest.l0 k l q m (i : Int)) r := by
      intro d
      induction d with
      | zero =>
        intro i m hi
        by_cases c : m = 0
        · exact ⟨_, metrics_Table_Tallest.l0.ev (Ev.ifn (by omega) (Ev.ifp c (Ev.bind (Ev.opt (Height_eq l 0)) (Ev.now _)))), regletref04_Tallest.l0.ev (Ev.ifn (by omega) (Ev.ifp c (Ev.bind (Ev.opt (refOf_eq l 0)) (Ev.now _))))⟩
        · exact ⟨m, metrics_Table_Tallest.l0.ev (Ev.ifn (by omega) (Ev.ifn c (Ev.now _))), regletref04_Tallest.l0.ev (Ev.ifn (by omega) (Ev.ifn c (Ev.now _)))⟩
      | succ d ih =>
        intro i m hi
        have hw : wrap64 ((i : Int) + 1) = ((i + 1 : Nat) : Int) := w64 (by omega) (by omega)
        by_cases c : (rd_T74 q (i : Int)).f0 > 0
        · obtain ⟨r, h1, h2⟩ := ih (i + 1) (mx m (ofS l (rd_T74 q (i : Int)).f1).f0) (by omega)
          refine ⟨r, metrics_Table_Tallest.l0.ev (Ev.ifp (by omega) (Ev.ifp (by omega) (Ev.ifp (by omega) (Ev.ifp c (Ev.bind (Ev.opt (Height_eq _ _)) (by rw [hw]; exact h1)))))), regletref04_Tallest.l0.ev (Ev.ifp (by omega) (Ev.ifp (by omega) (Ev.bind (Ev.opt (refOf_eq _ _)) (Ev.ifp c (Ev.ifc (fun z => ?_) (fun z => ?_))))))⟩
          · have : mx m (ofS l (rd_T74 q (i : Int)).f1).f0 = (ofS l (rd_T74 q (i : Int)).f1).f0 := by have z : (ofS l (rd_T74 q (i : Int)).f1).f0 > m := z; unfold mx; omega
            rw [hw]; rw [this] at h2; exact h2
          · have : mx m (ofS l (rd_T74 q (i : Int)).f1).f0 = m := by have z : ¬ (ofS l (rd_T74 q (i : Int)).f1).f0 > m := z; unfold mx; omega
            rw [hw]; rw [this] at h2; exact h2
        · obtain ⟨r, h1, h2⟩ := ih (i + 1) m (by omega)
          exact ⟨r, metrics_Table_Tallest.l0.ev (Ev.ifp (by omega) (Ev.ifp (by omega) (Ev.ifp (by omega) (Ev.ifn c (by rw [hw]; exact h1))))), regletref04_Tallest.l0.ev (Ev.ifp (by omega) (Ev.ifp (by omega) (Ev.bind (Ev.opt (refOf_eq _ _)) (Ev.ifn c (by rw [hw]; exact h2)))))⟩
    obtain ⟨r, h1, h2⟩ := both q.length 0 0 (by omega)
    exact Ev.bind h1 (Ev.bind h2 (Ev.some_ (by simp)))
  · simp only [h, decide_false, if_false]
    exact Ev.ifn (by simp) (Ev.now _)
end Go.Proofs.Ytljbfmehdgfcfaa.Pure
