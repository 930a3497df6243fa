/- Lines are told to the pages with their heights, their places, and whether they keep. -/
import Derived.Test.YtjbobaeggdafpaaLa
namespace Go.Proofs.Ytjbobaeggdafpaa.Vm
open Go
open _root_.Go.RowKit (wrap64)
theorem Slots_l0 (l : List Lin) (hl : l.length ≤ 1000) (b : Bool) : ∀ (d i : Nat) (o : List api_Slot), i + d = l.length → o.length = i → (∀ j : Nat, j < i → rd o (j : Int) = ((rd l (j : Int)).2.2.2.2.1, (j : Int), (l.length : Int), b)) →
    ∃ o' : List api_Slot, o'.length = l.length ∧ (∀ j : Nat, j < l.length → rd o' (j : Int) = ((rd l (j : Int)).2.2.2.2.1, (j : Int), (l.length : Int), b)) ∧ Ev (fun k => lines_Slots.l0 k l b o l (l.length : Int) (i : Int)) o' := by
  intro d
  induction d with
  | zero => exact fun i o e ho hj => ⟨o, by omega, fun j hjl => hj j (by omega), Ev.st (fun k => by rw [lines_Slots.l0]) (Ev.dn (by omega) (Ev.now _))⟩
  | succ d ih =>
    intro i o e ho hj
    obtain ⟨o', h1, h2, h3⟩ := ih (i + 1) (o ++ [((rd l (i : Int)).2.2.2.2.1, (i : Int), (l.length : Int), b)]) (by omega) (by simp [ho]) (fun j hj' => by
      by_cases c : j < i
      · rw [rd_app_lt (by omega) (by omega)]; exact hj j c
      · obtain rfl : j = i := by omega
        rw [rd_app_ge (by omega), ho, Int.sub_self]; rfl)
    refine ⟨o', h1, h2, Ev.st (fun k => by rw [lines_Slots.l0]) (Ev.dp (by omega) ?_)⟩
    refine Ev.at_ (by omega) (by omega) ?_
    refine Ev.ifp (by simp only [List.length_cons, List.length_nil]; omega) ?_
    rw [nx i (by omega)]
    exact h3
theorem Pure.LinesSlots (l : List Lin) (b : Bool) (_ : okT (.row false tLine) l) (_ : okT .b b) : ∃ k, regletlaw10_LinesSlots.f k l b = some true := by
  refine Ev.rounds (Ev.bind awake10_ev (Ev.bn rfl (Ev.dc (fun _ => Ev.now _) (fun h => ?_))))
  obtain ⟨o, h1, h2, h3⟩ := Slots_l0 l (by omega) b l.length 0 [] (by omega) rfl (fun j hj => by omega)
  refine Ev.bind h3 (Ev.xn (by omega) ?_)
  have loop : ∀ d i : Nat, i + d = o.length → Ev (fun k => regletlaw10_LinesSlots.l0 k l b o (i : Int)) true := by
    intro d
    induction d with
    | zero => exact fun i e => Ev.st (fun k => by rw [regletlaw10_LinesSlots.l0]) (Ev.dn (by omega) (Ev.now _))
    | succ d ih =>
      intro i e
      refine Ev.st (fun k => by rw [regletlaw10_LinesSlots.l0]) (Ev.dp (by omega) ?_)
      refine Ev.gx (by omega) (by omega) ?_
      rw [h2 i (by omega)]
      refine Ev.at_ (by omega) (by omega) ?_
      refine Ev.bn (by simp) ?_
      rw [nx i (by omega)]
      exact ih (i + 1) (by omega)
  exact loop o.length 0 (by omega)
end Go.Proofs.Ytjbobaeggdafpaa.Vm
