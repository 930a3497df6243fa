/- For a later end a line is not narrower, whatever its glue does; and where it can't be narrow enough it doesn't fit. -/
import Derived.Test.YtnnmgchnmggcaaaIp
namespace Go.Proofs.Ytnnmgchnmggcaaa.Vm
open Go
open _root_.Go.RowKit (wrap64)
theorem bounds_l1 {l : List api_Item} {p : measure_Para} (hp : Par l p) (hg : Good l) (a width : Int) (hx : -1099511627776 ≤ width ∧ width ≤ 1099511627776) : ∀ (m i : Nat) (n w : Int) (was : Bool), i + m = l.length → (∀ j : Nat, i = j + 1 → n = (bdV l a (j : Int)).1 ∧ w = (bdV l a (j : Int)).2.1 ∧ was = (bdV l a (j : Int)).2.2) →
    Ev (fun k => regletlaw08_MeasureBounds.l1 k l a width p n w was (i : Int)) true
 | 0, i, n, w, was, e, _ => Ev.st (fun k => by rw [regletlaw08_MeasureBounds.l1]) (Ev.dn (by omega) (Ev.now _))
 | m + 1, i, n, w, was, e, hq => by
  have hl := hg.len
  have go := bounds_l1 hp hg a width hx m (i + 1) (bdV l a (i : Int)).1 (bdV l a (i : Int)).2.1 (bdV l a (i : Int)).2.2 (by omega) (fun j hj => by cases (show i = j by omega); exact ⟨rfl, rfl, rfl⟩)
  have nxt : Ev (fun k => regletlaw08_MeasureBounds.j3 k l a width p (i : Int) (bdV l a (i : Int)).1 (bdV l a (i : Int)).2.1 (bdV l a (i : Int)).2.2) true := by
    refine Ev.st (fun k => by rw [regletlaw08_MeasureBounds.j3]) ?_
    rw [nx i (by omega)]; exact go
  obtain ⟨v, mv, _, ov, bd⟩ := Fit_both hp hg a (i : Int) width hx
  have j2 : Ev (fun k => regletlaw08_MeasureBounds.j2 k l a width p (i : Int) (bdV l a (i : Int)).1 (bdV l a (i : Int)).2.1 (bdV l a (i : Int)).2.2) true := by
    refine Ev.st (fun k => by rw [regletlaw08_MeasureBounds.j2]) (Ev.bind mv ?_)
    have tail : Ev (fun k => if (decide ((bdV l a (i : Int)).2.1 < width)) = true then (if (!(bdV l a (i : Int)).2.2) = true then (if (decide (v.2.2.1 < 10000)) = true then (some false) else (regletlaw08_MeasureBounds.j3 k l a width p (i : Int) (bdV l a (i : Int)).1 (bdV l a (i : Int)).2.1 (bdV l a (i : Int)).2.2)) else (regletlaw08_MeasureBounds.j3 k l a width p (i : Int) (bdV l a (i : Int)).1 (bdV l a (i : Int)).2.1 (bdV l a (i : Int)).2.2)) else (regletlaw08_MeasureBounds.j3 k l a width p (i : Int) (bdV l a (i : Int)).1 (bdV l a (i : Int)).2.1 (bdV l a (i : Int)).2.2)) true :=
      Ev.dc (fun h1 => Ev.nc (fun h2 => Ev.dn (by rw [bd h1 h2]; omega) nxt) (fun _ => nxt)) (fun _ => nxt)
    exact Ev.dc (fun h1 => Ev.bn (by rw [ov h1]; rfl) tail) (fun _ => tail)
  refine Ev.st (fun k => by rw [regletlaw08_MeasureBounds.l1]) (Ev.dp (by omega) (Ev.bind (Bounds_ev hp hg a (i : Int)) (Ev.dc (fun hi => ?_) (fun _ => j2))))
  obtain ⟨j, rfl⟩ : ∃ j, i = j + 1 := ⟨i - 1, by omega⟩
  obtain ⟨rfl, rfl, rfl⟩ := hq j rfl
  have N := bdV_next hg a j (by omega)
  refine Ev.dn (by omega) (Ev.dn (by omega) (Ev.bc (fun h => Ev.bn ?_ j2) (fun _ => j2)))
  rw [N.2.2 h]; rfl
theorem Pure.MeasureBounds (l : List api_Item) (a x : Int) (_ : okT (.row false tItem) l) (_ : okT (.i .i64) a) (_ : okT (.i .i64) x) : ∃ k, regletlaw08_MeasureBounds.f k l a x = some true := by
  refine Ev.rounds (Ev.bind awake08_ev (Ev.bn rfl ?_))
  rcases para08_ev l with ⟨_, hb⟩ | ⟨h, p, hp, hb⟩
  · exact Ev.bind hb (Ev.nilp rfl (Ev.now _))
  refine Ev.bind hb (Ev.somep rfl (Ev.dc (fun _ => Ev.now _) (fun h1 => Ev.dc (fun _ => Ev.now _) (fun h2 => ?_))))
  exact Ev.st (fun k => by rw [regletlaw08_MeasureBounds.j0]; rfl) (bounds_l1 hp h.1.good a x (by omega) l.length 0 0 0 false (by omega) (fun j hj => absurd hj (by omega)))
end Go.Proofs.Ytnnmgchnmggcaaa.Vm
