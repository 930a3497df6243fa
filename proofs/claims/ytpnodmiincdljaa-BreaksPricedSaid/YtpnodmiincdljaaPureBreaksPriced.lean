/- The lines of any paragraph do, and cost what is told. -/
import Derived.Test.YtpnodmiincdljaaNi
namespace Go.Proofs.Ytpnodmiincdljaa.Vm
open Go
open _root_.Go.RowKit (wrap64)
theorem Pure.BreaksPriced (l : List api_Item) (w : Int) (s : api_Settings) (_ : okT (.row false tItem) l) (_ : okT (.i .i64) w) (_ : okT tSet s) : ∃ k, regletlaw09_BreaksPriced.f k l w s = some true := by
  refine Ev.rounds (Ev.bind awake09_ev (Ev.bn rfl ?_))
  rcases para09_ev l 120 with hb | ⟨⟨hr, h4, hm⟩, p, hp, hb⟩
  · exact Ev.bind hb (Ev.nilp rfl (Ev.now _))
  refine Ev.bind hb (Ev.somep rfl (Ev.bind (rRight9_ev _ _) (Ev.nc (fun _ => Ev.now _) (fun c1 => ?_))))
  have S : Sit l p w s := ⟨hp, hr, of_decide_eq_true c1⟩
  obtain ⟨W, u, e, B, v⟩ := Break_ev S
  refine Ev.st (fun k => by rw [regletlaw09_BreaksPriced.j0]) ?_
  refine Ev.bind v ?_
  refine Ev.xn rfl ?_
  refine Ev.bind (Price_yes S e B.first.1) ?_
  exact Ev.bp rfl (Ev.some_ (decide_eq_true rfl))
end Go.Proofs.Ytpnodmiincdljaa.Vm
