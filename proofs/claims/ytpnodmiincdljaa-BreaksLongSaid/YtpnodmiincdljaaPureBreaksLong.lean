/- Of a paragraph with many places the breaking follows from what the lines behind each place cost. -/
import Derived.Test.YtpnodmiincdljaaNj
import Derived.Test.YtpnodmiincdljaaNk
namespace Go.Proofs.Ytpnodmiincdljaa.Vm
open Go
open _root_.Go.RowKit (wrap64)
theorem Pure.BreaksLong (l : List api_Item) (w : Int) (s : api_Settings) (_ : okT (.row false tItem) l) (_ : okT (.i .i64) w) (_ : okT tSet s) : ∃ k, regletlaw09_BreaksLong.f k l w s = some true := by
  refine Ev.rounds (Ev.bind awake09_ev (Ev.bn rfl ?_))
  rcases para09_ev l 40 with hb | ⟨⟨hr, h4, hm⟩, p, hp, hb⟩
  · exact Ev.bind hb (Ev.nilp rfl (Ev.now _))
  refine Ev.bind hb (Ev.somep rfl (Ev.bind (rRight9_ev _ _) (Ev.nc (fun _ => Ev.now _) (fun c1 => ?_))))
  have S : Sit l p w s := ⟨hp, hr, of_decide_eq_true c1⟩
  obtain ⟨W, u, e, B, v⟩ := Break_ev S
  obtain ⟨W', u', e', B', v'⟩ := Fast_ev S
  obtain ⟨rfl, rfl, rfl⟩ := B.uniq B'
  obtain ⟨W2, u2, e2, B2, v2⟩ := rBreak_ev S
  obtain ⟨rfl, rfl, rfl⟩ := B.uniq B2
  have bl := B.len
  have same := Same_refl (W.map (endV l), u, e) (by rw [List.length_map]; omega)
  have j1 : Ev (fun k => regletlaw09_BreaksLong.j1 k 0 (W.map (endV l), u, e) (W.map (endV l), u, e)) true := by
    refine Ev.st (fun k => by rw [regletlaw09_BreaksLong.j1]) ?_
    exact Ev.dp rfl (Ev.bind same (Ev.now _))
  refine Ev.st (fun k => by rw [regletlaw09_BreaksLong.j0]) ?_
  refine Ev.bind v ?_
  refine Ev.bind v' ?_
  refine Ev.bind (rLegal_ev hr.good) ?_
  refine Ev.dc (fun _ => ?_) (fun _ => j1)
  refine Ev.bind v2 ?_
  exact Ev.bind same (Ev.bn rfl j1)
end Go.Proofs.Ytpnodmiincdljaa.Vm
