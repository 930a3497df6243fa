/- Any paragraph in any styles is items as the page says, or is refused for its first fault. -/
import Derived.Test.YtkkhgbcmjeaghaaJb
namespace Go.Proofs.Ytkkhgbcmjeaghaa.Vm
open Go
open _root_.Go.RowKit (wrap64)
theorem Pure.ItemsBuilds (l : List Styl) (s : ByteArray) (R : List (Int × Int)) (_ : okT (.row false tSty) l) (_ : okT .s s) (_ : okT (.row false tRun) R) : ∃ k, regletlaw07_ItemsBuilds.f k l s R = some true := by
  refine Ev.rounds (Ev.bind awake07_ev (Ev.bn rfl ?_))
  rcases tab_cases l with ⟨hl, T⟩ | T
  · refine Ev.bind T (Ev.somep rfl (Ev.bind (few_ev s R) (Ev.nc (fun _ => Ev.now _) (fun c => ?_))))
    have c := of_decide_eq_true c
    refine Ev.st (fun k => by rw [regletlaw07_ItemsBuilds.j0]) ?_
    have C := iChk07_ev l s (by omega) R (by omega)
    by_cases e : chkC l s R = 0
    · obtain ⟨L, A, b, V, D, hr, I, J⟩ := Build_ev hl (s := s) (by omega) (R := R) (by omega) e
      have dl := D.le
      have len := bld_len hl (R := R) (n := (s.size : Int)) L A ([], -1) 0 (fun a ha => (D.sty hr a ha).2.2.1) bok0
      rw [e] at C
      refine Ev.bind I (Ev.bind J (Ev.dp rfl (Ev.bind C (Ev.dp rfl ?_))))
      exact Ev.bind (Same_ev _ (by dsimp only; omega)) (Ev.now _)
    · obtain ⟨I, J⟩ := bad_build (l := l) (s := s) (by omega) (R := R) (by omega) e
      refine Ev.bind I (Ev.bind J (Ev.dp rfl (Ev.bind C (Ev.dp rfl ?_))))
      exact Ev.bind (Same_ev _ (by simp)) (Ev.now _)
  · exact Ev.bind T (Ev.nilp rfl (Ev.now _))
end Go.Proofs.Ytkkhgbcmjeaghaa.Vm
