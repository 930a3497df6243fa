/- The lines are those of all ways that cost least, the first of them in order. -/
import Derived.Test.YtpnodmiincdljaaNj
namespace Go.Proofs.Ytpnodmiincdljaa.Vm
open Go
open _root_.Go.RowKit (wrap64)
theorem Pure.BreaksBest (l : List api_Item) (w : Int) (s : api_Settings) (_ : okT (.row false tItem) l) (_ : okT (.i .i64) w) (_ : okT tSet s) : ∃ k, regletlaw09_BreaksBest.f k l w s = some true := by
  refine Ev.rounds (Ev.bind awake09_ev (Ev.bn rfl ?_))
  rcases para09_ev l 10 with hb | ⟨⟨hr, h4, hm⟩, p, hp, hb⟩
  · exact Ev.bind hb (Ev.nilp rfl (Ev.now _))
  refine Ev.bind hb (Ev.somep rfl (Ev.bind (rRight9_ev _ _) (Ev.nc (fun _ => Ev.now _) (fun c1 => ?_))))
  have S : Sit l p w s := ⟨hp, hr, of_decide_eq_true c1⟩
  obtain ⟨W, u, e, B, v⟩ := Break_ev S
  obtain ⟨W', u', e', B', v'⟩ := rBreak_ev S
  obtain ⟨rfl, rfl, rfl⟩ := B.uniq B'
  have bl := B.len
  refine Ev.st (fun k => by rw [regletlaw09_BreaksBest.j0]) ?_
  refine Ev.bind v ?_
  refine Ev.dp rfl ?_
  refine Ev.bind v' ?_
  exact Ev.bind (Same_refl (W.map (endV l), u, e) (by rw [List.length_map]; omega)) (Ev.now _)
end Go.Proofs.Ytpnodmiincdljaa.Vm
