/- What the items of the line between any two places come to is what the page says. -/
import Derived.Test.YtnnmgchnmggcaaaIp
namespace Go.Proofs.Ytnnmgchnmggcaaa.Vm
open Go
open _root_.Go.RowKit (wrap64)
theorem lines_l0 {l : List api_Item} {p : measure_Para} (hp : Par l p) (hg : Good l) (a b : Int) : ∀ m i : Nat, i + m = l.length →
    Ev (fun k => regletlaw08_MeasureLines.l0 k l a b p (pmx l i) (i : Int) (lnV l a b) (lnV l a b) (bsV l a b).1) true
 | 0, i, e => by
  obtain rfl : i = l.length := by omega
  have W := bdV_w hg a b
  refine Ev.st (fun k => by rw [regletlaw08_MeasureLines.l0]) (Ev.dn (by omega) (Ev.bind (Bounds_ev hp hg a b) (Ev.bind (Start_ev hp hg a) (Ev.bind (refStart_ev hg a) (Ev.xn rfl ?_)))))
  rw [W.1, W.2]
  refine Ev.xn rfl (Ev.xn rfl (Ev.xn rfl (Ev.st (fun k => by rw [regletlaw08_MeasureLines.j2]) ?_)))
  exact Ev.some_ (by simp)
 | m + 1, i, e => by
  have hl := hg.len
  have hi : i < l.length := by omega
  have go := lines_l0 hp hg a b m (i + 1) (by omega)
  rw [pmx_succ l hi] at go
  have j1 : ∀ q, Ev (fun k => regletlaw08_MeasureLines.l0 k l a b p q ((i + 1 : Nat) : Int) (lnV l a b) (lnV l a b) (bsV l a b).1) true → Ev (fun k => regletlaw08_MeasureLines.j1 k l a b p q (i : Int) (lnV l a b) (lnV l a b) (bsV l a b).1) true := fun q h => by
    refine Ev.st (fun k => by rw [regletlaw08_MeasureLines.j1]) ?_
    rw [nx i (by omega)]
    exact h
  refine Ev.st (fun k => by rw [regletlaw08_MeasureLines.l0]) (Ev.dp (by omega) (Ev.at_ (by omega) (by omega) ?_))
  refine Ev.dc (fun h => Ev.at_ (by omega) (by omega) (j1 _ ?_)) (fun h => j1 _ ?_)
  · rw [if_pos h] at go; exact go
  · rw [if_neg h] at go; exact go
theorem Pure.MeasureLines (l : List api_Item) (a b : Int) (_ : okT (.row false tItem) l) (_ : okT (.i .i64) a) (_ : okT (.i .i64) b) : ∃ k, regletlaw08_MeasureLines.f k l a b = some true := by
  refine Ev.rounds (Ev.bind awake08_ev (Ev.bn rfl ?_))
  rcases para08_ev l with ⟨_, hb⟩ | ⟨h, p, hp, hb⟩
  · exact Ev.bind hb (Ev.nilp rfl (Ev.now _))
  have hg := h.1.good
  refine Ev.bind hb (Ev.somep rfl (Ev.bind (Line_ev hp hg a b) (Ev.bind (refWhole_ev hg a b) (Ev.bind (refLine_ev hg a b) ?_))))
  exact lines_l0 hp hg a b l.length 0 (by omega)
end Go.Proofs.Ytnnmgchnmggcaaa.Vm
