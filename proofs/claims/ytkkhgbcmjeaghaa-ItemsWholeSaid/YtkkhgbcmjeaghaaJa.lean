/- Chapter 7: the example. -/
import Derived.Test.YtkkhgbcmjeaghaaIa
import Derived.Test.YtkkhgbcmjeaghaaV3
namespace Go.Proofs.Ytkkhgbcmjeaghaa.Vm
open Go
open _root_.Go.RowKit (wrap64)
abbrev tItem : Ty := .cons (.i .i64) (.cons (.i .i64) (.cons (.i .i64) (.cons (.i .i64) (.cons .b (.cons (.i .i64) (.cons .b (.cons (.i .i64) (.i .i64))))))))
theorem awake07_ev : Ev (fun k => regletlaw07_awake.f k) true := Ev.far 300 (fun k => by kernel_rfl)
theorem rLeg_ev (l : List api_Item) (hl : l.length ≤ 281474976710656) (a : Int) : Ev (fun k => regletref07_Legal.f k l a) (legB l a) := by
  unfold legB
  refine Ev.dc (fun h => Ev.some_ (if_pos h).symm) (fun h => ?_)
  rw [if_neg h]
  refine Ev.dc (fun h1 => Ev.some_ (if_pos h1).symm) (fun h1 => ?_)
  rw [if_neg h1]
  refine Ev.st (fun k => by rw [regletref07_Legal.j0]) (Ev.at_ (by omega) (by omega) ?_)
  refine Ev.dc (fun h2 => Ev.at_ (by omega) (by omega) (Ev.some_ (if_pos h2).symm)) (fun h2 => ?_)
  rw [if_neg h2]
  refine Ev.at_ (by omega) (by omega) ?_
  refine Ev.dc (fun h3 => ?_) (fun h3 => Ev.some_ (if_neg h3).symm)
  rw [if_pos h3]
  refine Ev.at_ (by omega) (by omega) ?_
  refine Ev.nc (fun h4 => ?_) (fun h4 => Ev.some_ (if_pos h4).symm)
  rw [h4, if_neg Bool.false_ne_true]
  refine Ev.dc (fun h5 => ?_) (fun h5 => Ev.some_ (if_neg h5).symm)
  rw [if_pos h5, w64 (x := a - 1) (by omega) (by omega)]
  exact Ev.at_ (by omega) (by omega) (Ev.now _)
end Go.Proofs.Ytkkhgbcmjeaghaa.Vm
