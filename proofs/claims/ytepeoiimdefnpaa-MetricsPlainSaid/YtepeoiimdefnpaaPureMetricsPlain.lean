/- The plain style is the one that the page says, and is taken just where its measures are. -/
import Derived.Test.YtepeoiimdefnpaaQ1
import Derived.Test.YtepeoiimdefnpaaKit
import Derived.Test.YtepeoiimdefnpaaV3
namespace Go.Proofs.Ytepeoiimdefnpaa.Vm
open Go
open _root_.Go.RowKit (wrap64)
abbrev Sty := Int × Int × Int × Int × Int × Int × List api_Range × Bool
theorem awake04_ev : Ev (fun k => regletlaw04_awake.f k) true := Ev.far 200 (fun k => by kernel_rfl)
theorem unit_ev (n m : Int) : Ev (fun k => metrics_unit.f k n m) (decide (m ≤ n ∧ n ≤ 1048576)) := by
  refine Ev.dc (fun h => Ev.some_ ?_) (fun h => Ev.some_ ?_)
  · rw [decide_eq_decide]; exact ⟨fun q => ⟨h, q⟩, fun q => q.2⟩
  · rw [eq_comm, decide_eq_false_iff_not]; exact fun q => h q.1
def plainS (h w : Int) : Sty := (h, w, wrap64 (w.tdiv 2), wrap64 (w.tdiv 3), w, w, ([] : List api_Range), false)
def PlainOk (h w : Int) : Prop := (1 ≤ h ∧ h ≤ 1048576) ∧ 0 ≤ w ∧ w ≤ 1048576
instance (h w : Int) : Decidable (PlainOk h w) := by unfold PlainOk; infer_instance
theorem plain_check (h w : Int) : Ev (fun k => metrics_check.f k (plainS h w)) (if PlainOk h w then 0 else 41) := by
  have no : ¬ PlainOk h w → Ev (fun _ => some (41 : Int)) (if PlainOk h w then 0 else 41) := fun q => Ev.some_ (if_neg q).symm
  by_cases a : 1 ≤ h ∧ h ≤ 1048576
  · by_cases b : 0 ≤ w ∧ w ≤ 1048576
    · rw [if_pos (show PlainOk h w from ⟨a, b⟩)]
      have d2 : wrap64 (w.tdiv 2) = w / 2 := by rw [Int.tdiv_eq_ediv_of_nonneg b.1, w64 (by omega) (by omega)]
      have d3 : wrap64 (w.tdiv 3) = w / 3 := by rw [Int.tdiv_eq_ediv_of_nonneg b.1, w64 (by omega) (by omega)]
      unfold plainS
      rw [d2, d3]
      clear d2 d3
      have yes : ∀ {n m : Int}, m ≤ n → n ≤ 1048576 → Ev (fun k => metrics_unit.f k n m) true := fun {n m} x y => by
        have := unit_ev n m
        rwa [decide_eq_true (show m ≤ n ∧ n ≤ 1048576 from ⟨x, y⟩)] at this
      refine Ev.bind (yes a.1 a.2) (Ev.bn rfl ?_)
      refine Ev.bind (yes b.1 b.2) (Ev.bn rfl ?_)
      refine Ev.bind (yes (by dsimp only; omega) (by dsimp only; omega)) (Ev.bn rfl ?_)
      refine Ev.bind (yes (by dsimp only; omega) (by dsimp only; omega)) (Ev.bn rfl ?_)
      refine Ev.bind (yes b.1 b.2) (Ev.bn rfl ?_)
      refine Ev.bind (yes b.1 b.2) (Ev.bn rfl ?_)
      refine Ev.dn (by dsimp only; omega) ?_
      refine Ev.st (fun k => by rw [metrics_check.j0]) ?_
      refine Ev.dn (by simp) ?_
      refine Ev.st (fun k => by rw [metrics_check.l1]) ?_
      exact Ev.dn (by simp) (Ev.now _)
    · refine Ev.bind (unit_ev _ _) (Ev.bn (by rw [decide_eq_true (show 1 ≤ (plainS h w).1 ∧ (plainS h w).1 ≤ 1048576 from a)]; rfl) ?_)
      refine Ev.bind (unit_ev _ _) (Ev.bp (by rw [decide_eq_false (show ¬ (0 ≤ (plainS h w).2.1 ∧ (plainS h w).2.1 ≤ 1048576) from b)]; rfl) ?_)
      exact no fun q => b q.2
  · refine Ev.bind (unit_ev _ _) (Ev.bp (by rw [decide_eq_false (show ¬ (1 ≤ (plainS h w).1 ∧ (plainS h w).1 ≤ 1048576) from a)]; rfl) ?_)
    exact no fun q => a q.1
theorem plain_New (h w : Int) : Ev (fun k => metrics_New.f k [plainS h w]) (if PlainOk h w then (some [plainS h w], 0, 0) else (none, 41, 0)) := by
  have C := plain_check h w
  refine Ev.dn (by simp) (Ev.dn (by simp) ?_)
  refine Ev.st (fun k => by rw [metrics_New.j0]) ?_
  refine Ev.st (fun k => by rw [metrics_New.l1]) ?_
  refine Ev.dp (by simp) ?_
  refine Ev.at_ (by omega) (by simp) ?_
  by_cases q : PlainOk h w
  · rw [if_pos q] at C ⊢
    refine Ev.bind C (Ev.xn rfl ?_)
    refine Ev.ifp (by show (0 + 0) * 24 ≤ 140737488355328; omega) ?_
    refine Ev.ifp (by simp) ?_
    refine Ev.st (fun k => by rw [metrics_New.l1]) ?_
    exact Ev.dn (by show ¬ wrap64 (0 + 1) < (1 : Int); rw [w64 (by omega) (by omega)]; omega) (Ev.now _)
  · rw [if_neg q] at C ⊢
    exact Ev.bind C (Ev.xp (by decide) (Ev.now _))
theorem same_one (h w : Int) : Ev (fun k => regletref04_Same.f k [plainS h w] [plainS h w]) true := by
  refine Ev.xn rfl ?_
  refine Ev.st (fun k => by rw [regletref04_Same.l0]) ?_
  refine Ev.dp (by simp) ?_
  refine Ev.at_ (by omega) (by simp) ?_
  refine Ev.at_ (by omega) (by simp) ?_
  refine Ev.xn rfl (Ev.xn rfl (Ev.xn rfl (Ev.xn rfl (Ev.xn rfl (Ev.xn rfl (Ev.xn rfl (Ev.xn rfl ?_)))))))
  refine Ev.st (fun k => by rw [regletref04_Same.j1]) ?_
  refine Ev.st (fun k => by rw [regletref04_Same.l2]) ?_
  refine Ev.dn (by show ¬ (0 : Int) < 0; decide) ?_
  refine Ev.st (fun k => by rw [regletref04_Same.l0]) ?_
  exact Ev.dn (by show ¬ wrap64 (0 + 1) < (1 : Int); rw [w64 (by omega) (by omega)]; omega) (Ev.now _)
theorem Pure.MetricsPlain (h w : Int) (_ : okT (.i .i64) h) (_ : okT (.i .i64) w) : ∃ k, regletlaw04_MetricsPlain.f k h w = some true := by
  refine Ev.rounds (Ev.bind awake04_ev (Ev.bn rfl ?_))
  refine Ev.bind (Ev.now [plainS h w]) ?_
  refine Ev.bind (plain_New h w) ?_
  by_cases q : PlainOk h w
  · rw [if_pos q]
    refine Ev.somep rfl ?_
    refine Ev.bind (same_one h w) (Ev.bp rfl ?_)
    exact Ev.dp q.1.1 (Ev.dp q.1.2 (Ev.dp q.2.1 (Ev.some_ (by rw [decide_eq_true q.2.2]; rfl))))
  · rw [if_neg q]
    refine Ev.nilp rfl ?_
    refine Ev.bind (same_one h w) (Ev.bp rfl ?_)
    refine Ev.dc (fun a => Ev.dc (fun b => Ev.dc (fun c => Ev.some_ ?_) (fun _ => Ev.some_ (by decide))) (fun _ => Ev.some_ (by decide))) (fun _ => Ev.some_ (by decide))
    have : ¬ w ≤ 1048576 := fun d => q ⟨⟨a, b⟩, c, d⟩
    rw [decide_eq_false this]; decide
end Go.Proofs.Ytepeoiimdefnpaa.Vm
