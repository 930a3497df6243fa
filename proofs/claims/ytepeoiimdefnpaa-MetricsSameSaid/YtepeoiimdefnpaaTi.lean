/- Styles: their faults; the table of styles. -/
import Derived.Test.YtepeoiimdefnpaaQ1
import Derived.Test.YtepeoiimdefnpaaKit
import Derived.Test.YtepeoiimdefnpaaV4
namespace Go.Proofs.Ytepeoiimdefnpaa.Vm
open Go
open _root_.Go.RowKit (wrap64)
abbrev Rng := Int × Int × Int
abbrev Styl := Int × Int × Int × Int × Int × Int × List Rng × Bool
def UnitOk (n m : Int) : Prop := m ≤ n ∧ n ≤ 1048576
instance (n m : Int) : Decidable (UnitOk n m) := inferInstanceAs (Decidable (_ ∧ _))
theorem unitI_ev (n m : Int) : Ev (fun k => metrics_unit.f k n m) (decide (UnitOk n m)) := by
  refine Ev.dc (fun h => Ev.some_ ?_) (fun h => Ev.some_ ?_)
  · rw [decide_eq_decide]; exact ⟨fun q => ⟨h, q⟩, fun q => q.2⟩
  · rw [eq_comm, decide_eq_false_iff_not]; exact fun q => h q.1
theorem fitsI_ev (n m : Int) : Ev (fun k => regletref04_fits.f k n m) (decide (UnitOk n m)) := by
  refine Ev.dc (fun h => Ev.some_ ?_) (fun h => Ev.some_ ?_)
  · rw [decide_eq_decide]; exact ⟨fun q => ⟨h, q⟩, fun q => q.2⟩
  · rw [eq_comm, decide_eq_false_iff_not]; exact fun q => h q.1
/-- the first fault of ranges, from one on -/
def rngC : Int → List Rng → Int
  | _, [] => 0
  | above, r :: rs => if r.1 ≤ above ∨ r.2.1 < r.1 ∨ 1114111 < r.2.1 then 42 else if UnitOk r.2.2 0 then rngC r.2.1 rs else 41
def UnitsOk (s : Styl) : Prop := UnitOk s.1 1 ∧ UnitOk s.2.1 0 ∧ UnitOk s.2.2.1 0 ∧ UnitOk s.2.2.2.1 0 ∧ UnitOk s.2.2.2.2.1 0 ∧ UnitOk s.2.2.2.2.2.1 0 ∧ s.2.2.2.1 ≤ s.2.1
instance (s : Styl) : Decidable (UnitsOk s) := inferInstanceAs (Decidable (_ ∧ _))
/-- the first fault of a style -/
def styC (s : Styl) : Int := if UnitsOk s then (if 64 < (s.2.2.2.2.2.2.1.length : Int) then 42 else rngC (-1) s.2.2.2.2.2.2.1) else 41
theorem check_loop (l : List Rng) (hl : l.length ≤ 64) : ∀ (d i : Nat) (above : Int), i + d = l.length → Ev (fun k => metrics_check.l1 k above l (l.length : Int) (i : Int)) (rngC above (l.drop i)) := by
  intro d
  induction d with
  | zero =>
    intro i above hi
    refine Ev.st (fun k => by rw [metrics_check.l1]) (Ev.dn (by omega) (Ev.some_ ?_))
    rw [List.drop_of_length_le (by omega)]; rfl
  | succ d ih =>
    intro i above hi
    rw [drop_rd l i (by omega)]
    refine Ev.st (fun k => by rw [metrics_check.l1]) (Ev.dp (by omega) ?_)
    refine Ev.at_ (by omega) (by omega) ?_
    have ih' := ih (i + 1) (rd l (i : Int)).2.1 (by omega)
    generalize rd l (i : Int) = x at *
    have bad : (x.1 ≤ above ∨ x.2.1 < x.1 ∨ 1114111 < x.2.1) → Ev (fun _ => some (42 : Int)) (rngC above (x :: l.drop (i + 1))) := fun h => Ev.some_ (by unfold rngC; rw [if_pos h])
    refine Ev.dc (fun h => bad (.inl h)) (fun h1 => Ev.dc (fun h => bad (.inr (.inl h))) (fun h2 => Ev.dc (fun h => bad (.inr (.inr h))) (fun h3 => ?_)))
    unfold rngC
    rw [if_neg (show ¬ (x.1 ≤ above ∨ x.2.1 < x.1 ∨ 1114111 < x.2.1) by omega)]
    refine Ev.st (fun k => by rw [metrics_check.j2]) ?_
    refine Ev.bind (unitI_ev _ _) (Ev.nc (fun q => Ev.some_ ?_) (fun q => ?_))
    · rw [if_neg (of_decide_eq_false q)]
    · rw [if_pos (of_decide_eq_true q), nx i (by omega)]
      exact ih'
theorem check_ev (s : Styl) : Ev (fun k => metrics_check.f k s) (styC s) := by
  have bad : ¬ UnitsOk s → Ev (fun _ => some (41 : Int)) (styC s) := fun h => Ev.some_ (by unfold styC; rw [if_neg h])
  refine Ev.bind (unitI_ev _ _) (Ev.nc (fun q => bad fun z => of_decide_eq_false q z.1) (fun q0 => ?_))
  refine Ev.bind (unitI_ev _ _) (Ev.nc (fun q => bad fun z => of_decide_eq_false q z.2.1) (fun q1 => ?_))
  refine Ev.bind (unitI_ev _ _) (Ev.nc (fun q => bad fun z => of_decide_eq_false q z.2.2.1) (fun q2 => ?_))
  refine Ev.bind (unitI_ev _ _) (Ev.nc (fun q => bad fun z => of_decide_eq_false q z.2.2.2.1) (fun q3 => ?_))
  refine Ev.bind (unitI_ev _ _) (Ev.nc (fun q => bad fun z => of_decide_eq_false q z.2.2.2.2.1) (fun q4 => ?_))
  refine Ev.bind (unitI_ev _ _) (Ev.nc (fun q => bad fun z => of_decide_eq_false q z.2.2.2.2.2.1) (fun q5 => ?_))
  refine Ev.dc (fun q => bad fun z => by have := z.2.2.2.2.2.2; omega) (fun q6 => ?_)
  have ok : UnitsOk s := ⟨of_decide_eq_true q0, of_decide_eq_true q1, of_decide_eq_true q2, of_decide_eq_true q3, of_decide_eq_true q4, of_decide_eq_true q5, by omega⟩
  unfold styC
  rw [if_pos ok]
  refine Ev.st (fun k => by rw [metrics_check.j0]) (Ev.dc (fun h => Ev.some_ (if_pos h).symm) (fun h => ?_))
  rw [if_neg h]
  exact check_loop s.2.2.2.2.2.2.1 (by omega) s.2.2.2.2.2.2.1.length 0 (-1) (by omega)
end Go.Proofs.Ytepeoiimdefnpaa.Vm
