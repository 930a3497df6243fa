/- Chapter 8: the example, a paragraph of few items. -/
import Derived.Test.YtnnmgchnmggcaaaId
import Derived.Test.YtnnmgchnmggcaaaV3
namespace Go.Proofs.Ytnnmgchnmggcaaa.Vm
open Go
open _root_.Go.RowKit (wrap64)
abbrev tItem : Ty := .cons (.i .i64) (.cons (.i .i64) (.cons (.i .i64) (.cons (.i .i64) (.cons .b (.cons (.i .i64) (.cons .b (.cons (.i .i64) (.i .i64))))))))
theorem awake08_ev : Ev (fun k => regletlaw08_awake.f k) true := Ev.far 80 (fun k => by kernel_rfl)
theorem para08_ev (l : List api_Item) : (¬ (RightI l ∧ l.length ≤ 400) ∧ Ev (fun k => regletlaw08_para.f k l) none) ∨ ((RightI l ∧ l.length ≤ 400) ∧ ∃ p, Par l p ∧ Ev (fun k => regletlaw08_para.f k l) (some p)) := by
  by_cases h : RightI l ∧ l.length ≤ 400
  · obtain ⟨p, hp, he⟩ := New_yes h.1
    refine .inr ⟨h, p, hp, Ev.dn (by omega) (Ev.bind (rRight_ev l) (Ev.bn (by rw [isTrue_yes h.1]; rfl) (Ev.st (fun k => by rw [regletlaw08_para.j0]) (Ev.bind he ?_))))⟩
    exact Ev.somep rfl (Ev.xn rfl (Ev.now _))
  · refine .inl ⟨h, Ev.dc (fun _ => Ev.now _) (fun q => Ev.bind (rRight_ev l) (Ev.bp ?_ (Ev.now _)))⟩
    rw [isTrue_no (fun r => h ⟨r, by omega⟩)]; rfl
end Go.Proofs.Ytnnmgchnmggcaaa.Vm
