/- The reference's faults of styles; the table. -/
import Derived.Test.YtepeoiimdefnpaaTi
namespace Go.Proofs.Ytepeoiimdefnpaa.Vm
open Go
open _root_.Go.RowKit (wrap64)
theorem refStyle_loop (s : Styl) (hl : s.2.2.2.2.2.2.1.length ≤ 64) : ∀ (d i : Nat) (above : Int), i + d = s.2.2.2.2.2.2.1.length → (above = if i = 0 then -1 else (rd s.2.2.2.2.2.2.1 ((i : Int) - 1)).2.1) →
    Ev (fun k => regletref04_Style.l2 k (i : Int) s) (rngC above (s.2.2.2.2.2.2.1.drop i)) := by
  intro d
  induction d with
  | zero =>
    intro i above hi _
    refine Ev.st (fun k => by rw [regletref04_Style.l2]) (Ev.dn (by omega) (Ev.some_ ?_))
    rw [List.drop_of_length_le (by omega)]; rfl
  | succ d ih =>
    intro i above hi ha
    rw [drop_rd s.2.2.2.2.2.2.1 i (by omega)]
    refine Ev.st (fun k => by rw [regletref04_Style.l2]) (Ev.dp (by omega) ?_)
    refine Ev.at_ (by omega) (by omega) ?_
    have ih' := ih (i + 1) (rd s.2.2.2.2.2.2.1 (i : Int)).2.1 (by omega) (by rw [if_neg (by omega), show ((i + 1 : Nat) : Int) - 1 = (i : Int) by omega])
    generalize rd s.2.2.2.2.2.2.1 (i : Int) = x at *
    have bad : (x.1 ≤ above ∨ x.2.1 < x.1 ∨ 1114111 < x.2.1) → Ev (fun _ => some (42 : Int)) (rngC above (x :: s.2.2.2.2.2.2.1.drop (i + 1))) := fun h => Ev.some_ (by unfold rngC; rw [if_pos h])
    have rest : ¬ x.1 ≤ above → Ev (fun k => if (decide (x.2.1 < x.1)) = true then (some 42) else (if (decide (1114111 < x.2.1)) = true then (some 42) else (regletref04_Style.j3 k (i : Int) s x))) (rngC above (x :: s.2.2.2.2.2.2.1.drop (i + 1))) := by
      intro h1
      refine Ev.dc (fun h => bad (.inr (.inl h))) (fun h2 => Ev.dc (fun h => bad (.inr (.inr h))) (fun h3 => ?_))
      unfold rngC
      rw [if_neg (show ¬ (x.1 ≤ above ∨ x.2.1 < x.1 ∨ 1114111 < x.2.1) by omega)]
      refine Ev.st (fun k => by rw [regletref04_Style.j3]) ?_
      refine Ev.bind (fitsI_ev _ _) (Ev.nc (fun q => Ev.some_ ?_) (fun q => ?_))
      · rw [if_neg (of_decide_eq_false q)]
      · rw [if_pos (of_decide_eq_true q), nx i (by omega)]
        exact ih'
    refine Ev.dc (fun h0 => ?_) (fun h0 => ?_)
    · rw [if_pos (by omega)] at ha
      refine Ev.dc (fun h => bad (.inl (by omega))) (fun h => Ev.dn (by omega) (rest (by omega)))
    · rw [if_neg (by omega)] at ha
      refine Ev.dp (by omega) ?_
      rw [w64 (x := (i : Int) - 1) (by omega) (by omega)]
      refine Ev.at_ (by omega) (by omega) ?_
      rw [← ha]
      exact Ev.dc (fun h => bad (.inl h)) (fun h => rest h)
theorem refStyle_ev (s : Styl) : Ev (fun k => regletref04_Style.f k s) (styC s) := by
  have bad : ¬ UnitsOk s → Ev (fun _ => some (41 : Int)) (styC s) := fun h => Ev.some_ (by unfold styC; rw [if_neg h])
  unfold regletref04_Style.f
  have step : ∀ (i : Int) (x : Int), 0 ≤ i → i < 5 → rd [s.2.1, s.2.2.1, s.2.2.2.1, s.2.2.2.2.1, s.2.2.2.2.2.1] i = x → (¬ UnitOk x 0 → ¬ UnitsOk s) →
      (UnitOk x 0 → Ev (fun k => regletref04_Style.l0 k [s.2.1, s.2.2.1, s.2.2.2.1, s.2.2.2.2.1, s.2.2.2.2.2.1] (i + 1) s) (styC s)) →
      Ev (fun k => regletref04_Style.l0 k [s.2.1, s.2.2.1, s.2.2.2.1, s.2.2.2.2.1, s.2.2.2.2.2.1] i s) (styC s) := by
    intro i x h0 h5 hx hn hy
    refine Ev.st (fun k => by rw [regletref04_Style.l0]) (Ev.dp (by simpa using h5) (Ev.gx h0 (by simpa using h5) ?_))
    rw [hx, w64 (by omega) (by omega)]
    exact Ev.bind (fitsI_ev _ _) (Ev.nc (fun q => bad (hn (of_decide_eq_false q))) (fun q => hy (of_decide_eq_true q)))
  refine step 0 s.2.1 (by omega) (by omega) rfl (fun h q => h q.2.1) (fun h1 => ?_)
  refine step 1 s.2.2.1 (by omega) (by omega) rfl (fun h q => h q.2.2.1) (fun h2 => ?_)
  refine step 2 s.2.2.2.1 (by omega) (by omega) rfl (fun h q => h q.2.2.2.1) (fun h3 => ?_)
  refine step 3 s.2.2.2.2.1 (by omega) (by omega) rfl (fun h q => h q.2.2.2.2.1) (fun h4 => ?_)
  refine step 4 s.2.2.2.2.2.1 (by omega) (by omega) rfl (fun h q => h q.2.2.2.2.2.1) (fun h5 => ?_)
  refine Ev.st (fun k => by rw [regletref04_Style.l0]) (Ev.dn (by simp) ?_)
  refine Ev.bind (fitsI_ev _ _) (Ev.nc (fun q => bad fun z => of_decide_eq_false q z.1) (fun h0 => ?_))
  refine Ev.dc (fun q => bad fun z => by have := z.2.2.2.2.2.2; omega) (fun q => ?_)
  have ok : UnitsOk s := ⟨of_decide_eq_true h0, h1, h2, h3, h4, h5, by omega⟩
  unfold styC
  rw [if_pos ok]
  refine Ev.st (fun k => by rw [regletref04_Style.j1]) (Ev.dc (fun h => Ev.some_ (if_pos h).symm) (fun h => ?_))
  rw [if_neg h]
  exact refStyle_loop s (by omega) s.2.2.2.2.2.2.1.length 0 (-1) (by omega) rfl
end Go.Proofs.Ytepeoiimdefnpaa.Vm
