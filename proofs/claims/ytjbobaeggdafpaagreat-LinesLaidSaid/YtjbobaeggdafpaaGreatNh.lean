/- The reference: lines that do. -/
import Derived.Test.YtjbobaeggdafpaaGreatNg
namespace Go.Proofs.YtjbobaeggdafpaaGreat.Vm
open Go
open _root_.Go.RowKit (wrap64)
section
variable {l : List zA} {p : zE} {w : Int} {s : zD}
theorem rDoes_ev (h : Sit l p w s) (b : Bool) (a j : Nat) (haj : a ≤ j) (hj : j < (ends l).length) : Ev (fun k => xW.f k l (ends l) ((a : Int) - 1) (j : Int) w s b) ((zQ l w s b).D a j) := by
 have nl := h.n_le
 have fit := (h.fit (posV l a) (endV l j)).2.1
 have j0 : Ev (fun k => xW.j0 k l (ends l) ((a : Int) - 1) (j : Int) w b (posV l a) s) ((zQ l w s b).D a j) := by
  refine Ev.st (fun k => by rw [xW.j0]) ?_
  refine Ev.at_ (by omega) (by omega) ?_
  refine Ev.bind fit ?_
  rw [w64 (x := (a : Int) - 1 + 1) (by omega) (by omega)]
  have e : decide ((j : Int) = (a : Int) - 1 + 1) = decide (j = a) := by rw [decide_eq_decide]; omega
  rw [e]
  cases b with
  | true =>
   refine Ev.bp rfl (Ev.nc (fun z => Ev.some_ ?_) (fun z => Ev.some_ ?_))
   · show true = (!(fitV l (posV l a) (endV l j) w).2.2.2.2 || decide (j = a)); rw [z]; rfl
   · show decide (j = a) = (!(fitV l (posV l a) (endV l j) w).2.2.2.2 || decide (j = a)); rw [z]; rfl
  | false =>
   refine Ev.bn rfl (Ev.nc (fun z => Ev.some_ ?_) (fun z => Ev.some_ ?_))
   · show decide ((fitV l (posV l a) (endV l j) w).2.2.1 ≤ s.1) = (!(fitV l (posV l a) (endV l j) w).2.2.2.2 && decide ((fitV l (posV l a) (endV l j) w).2.2.1 ≤ s.1)); rw [z]; rfl
   · show false = (!(fitV l (posV l a) (endV l j) w).2.2.2.2 && decide ((fitV l (posV l a) (endV l j) w).2.2.1 ≤ s.1)); rw [z]; rfl
 cases a with
 | zero => exact Ev.dn (by omega) j0
 | succ a =>
  refine Ev.dp (by omega) ?_
  refine Ev.at_ (by omega) (by omega) ?_
  rw [show rd (ends l) (((a + 1 : Nat) : Int) - 1) = posV l (a + 1) by rw [show ((a + 1 : Nat) : Int) - 1 = (a : Int) by omega]; rfl]
  exact j0
end
end Go.Proofs.YtjbobaeggdafpaaGreat.Vm
