/- The line between any two places of any paragraph is set for any width as the page says. -/
import Derived.Test.YtnnmgchnmggcaaaIp
namespace Go.Proofs.Ytnnmgchnmggcaaa.Vm
open Go
open _root_.Go.RowKit (wrap64)
theorem Pure.MeasureFits (l : List api_Item) (ab : Int × Int) (x : Int) (_ : okT (.row false tItem) l) (_ : okT (.cons (.i .i64) (.i .i64)) ab) (_ : okT (.i .i64) x) : ∃ k, regletlaw08_MeasureFits.f k l ab x = some true := by
  refine Ev.rounds (Ev.bind awake08_ev (Ev.bn rfl ?_))
  rcases para08_ev l with ⟨_, hb⟩ | ⟨h, p, hp, hb⟩
  · exact Ev.bind hb (Ev.nilp rfl (Ev.now _))
  refine Ev.bind hb (Ev.somep rfl (Ev.dc (fun _ => Ev.now _) (fun h1 => Ev.dc (fun _ => Ev.now _) (fun h2 => ?_))))
  obtain ⟨v, m, r, _, _⟩ := Fit_both hp h.1.good ab.1 ab.2 x (by omega)
  refine Ev.st (fun k => by rw [regletlaw08_MeasureFits.j0]) (Ev.bind m (Ev.bind r ?_))
  exact Ev.some_ (by simp)
end Go.Proofs.Ytnnmgchnmggcaaa.Vm
