/- At which of any items a line may end, and at which it must. -/
import Derived.Test.YtkkhgbcmjeaghaaJa
namespace Go.Proofs.Ytkkhgbcmjeaghaa.Vm
open Go
open _root_.Go.RowKit (wrap64)
theorem ends07_l0 (l : List api_Item) (hl : l.length ≤ 281474976710656) : ∀ m i : Nat, i + m = 300 → Ev (fun k => regletlaw07_ItemsEnds.l0 k l (i : Int)) true
 | 0, i, e => by
  refine Ev.st (fun k => by rw [regletlaw07_ItemsEnds.l0]) (Ev.dc (fun _ => Ev.dn (by omega) (Ev.now _)) (fun _ => Ev.now _))
 | m + 1, i, e => by
  refine Ev.st (fun k => by rw [regletlaw07_ItemsEnds.l0]) (Ev.dc (fun h => Ev.dp (by omega) ?_) (fun _ => Ev.now _))
  refine Ev.st (fun k => by rw [regletlaw07_ItemsEnds.j1]) ?_
  refine Ev.bind (Legal_ev l hl i) ?_
  refine Ev.bind (rLeg_ev l hl i) ?_
  refine Ev.xn rfl ?_
  refine Ev.at_ (by omega) (by omega) ?_
  refine Ev.bind (fcd_ev _) ?_
  refine Ev.at_ (by omega) (by omega) ?_
  refine Ev.bind (rfcd_ev _) ?_
  refine Ev.xn rfl ?_
  refine Ev.st (fun k => by rw [regletlaw07_ItemsEnds.j2]) ?_
  rw [nx i (by omega)]
  exact ends07_l0 l hl m (i + 1) (by omega)
theorem Pure.ItemsEnds (l : List api_Item) (a : Int) (h : okT (.row false tItem) l) (_ : okT (.i .i64) a) : ∃ k, regletlaw07_ItemsEnds.f k l a = some true := by
  have hl : l.length ≤ 281474976710656 := by have := h.1; omega
  refine Ev.rounds (Ev.bind awake07_ev (Ev.bn rfl ?_))
  refine Ev.bind (Legal_ev l hl a) ?_
  refine Ev.bind (rLeg_ev l hl a) ?_
  refine Ev.xn rfl ?_
  exact ends07_l0 l hl 300 0 (by omega)
end Go.Proofs.Ytkkhgbcmjeaghaa.Vm
