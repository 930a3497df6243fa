/- Chapter 8: the example, settings, totals. -/
import Derived.Test.YtdkmmddakidieaaPx6
import Derived.Test.YtdkmmddakidieaaPx8
import Derived.Test.YtdkmmddakidieaaPx9
import Derived.Test.YtdkmmddakidieaaSc4
import Derived.Test.YtdkmmddakidieaaSc5
namespace Go.Proofs.Ytdkmmddakidieaa.P
open Go.RowKit Go.Proofs.YtdkmmddakidieaaW.PrintWords Go.Proofs.YtdkmmddakidieaaW.PrintLast Go.Proofs.YtdkmmddakidieaaW.PrintMore
open Go.Proofs.Ytdkmmddakidieaa.BadM (clamp clamp_le clamp_ge clamp_id clamp_clamp)
theorem awake_ev : Ev (fun k => regletlaw08_awake.f k) true := Ev.of regletlaw08_awake.mono (k := 80) (by decide +kernel)
def totM (a b : Int) : Int := mn (addM a b) 1125899906842624
theorem measure_Total_eq (a b : Int) : measure_Total.f a b = some (totM a b) := by
  unfold measure_Total.f; rw [scaled_Add_eq]; rfl
theorem ref_Total_eq (a b : Int) : regletref08_Total.f a b = some (totM a b) := by
  unfold regletref08_Total.f; rw [ref_Add_eq]; rfl
theorem totM_comm (a b : Int) : totM a b = totM b a := by unfold totM addM; rw [Int.add_comm]
theorem totM_assoc {a b c : Int} (ha : 0 ≤ a) (hb : 0 ≤ b) (hc : 0 ≤ c) : totM (totM a b) c = totM a (totM b c) := by
  unfold totM addM clamp mn
  repeat' split
  all_goals omega
def SetOk (t l a d s o w : Int) : Prop := 0 ≤ t ∧ t ≤ 10000 ∧ 0 ≤ l ∧ l ≤ 10000 ∧ 0 ≤ a ∧ a ≤ 1048576 ∧ 0 ≤ d ∧ d ≤ 1048576 ∧ 0 ≤ s ∧ s ≤ 1048576 ∧ 1 ≤ o ∧ o ≤ 100 ∧ 1 ≤ w ∧ w ≤ 100
instance (t l a d s o w : Int) : Decidable (SetOk t l a d s o w) := by unfold SetOk; infer_instance
theorem measure_Check_ev (t l a d s o w : Int) : Ev (fun k => measure_Check.f k t l a d s o w) (if SetOk t l a d s o w then 0 else 80) := by
  have bad : ¬ SetOk t l a d s o w → Ev (fun _ : Nat => some (80 : Int)) (if SetOk t l a d s o w then 0 else 80) := fun h => Ev.some_ (if_neg h).symm
  have z1 : wrap64 (0 + 1) = 1 := w64 (x := 0 + 1) (by omega) (by omega)
  have z2 : wrap64 (1 + 1) = 2 := w64 (x := 1 + 1) (by omega) (by omega)
  have z3 : wrap64 (2 + 1) = 3 := w64 (x := 2 + 1) (by omega) (by omega)
  refine Ev.bind (Ev.now _) ?_
  refine measure_Check.l0.ev (Ev.ifp (by simp) (Ev.ifp (by omega) (Ev.ifp (by simp) (Ev.ifc (fun (h : t < 0) => bad fun k => ?_) (fun (h0 : ¬ t < 0) => Ev.ifc (fun (h : t > 10000) => bad fun k => ?_) (fun (h1 : ¬ t > 10000) => ?_))))))
  · unfold SetOk at k; omega
  · unfold SetOk at k; omega
  rw [z1]
  refine measure_Check.l0.ev (Ev.ifp (by simp) (Ev.ifp (by omega) (Ev.ifp (by simp) (Ev.ifc (fun (h : l < 0) => bad fun k => ?_) (fun (h2 : ¬ l < 0) => Ev.ifc (fun (h : l > 10000) => bad fun k => ?_) (fun (h3 : ¬ l > 10000) => ?_))))))
  · unfold SetOk at k; omega
  · unfold SetOk at k; omega
  rw [z2]
  refine measure_Check.l0.ev (Ev.ifn (by simp) (Ev.bind (Ev.now _) ?_))
  refine measure_Check.l1.ev (Ev.ifp (by simp) (Ev.ifp (by omega) (Ev.ifp (by simp) (Ev.ifc (fun (h : a < 0) => bad fun k => ?_) (fun (h4 : ¬ a < 0) => Ev.ifc (fun (h : a > 1048576) => bad fun k => ?_) (fun (h5 : ¬ a > 1048576) => ?_))))))
  · unfold SetOk at k; omega
  · unfold SetOk at k; omega
  rw [z1]
  refine measure_Check.l1.ev (Ev.ifp (by simp) (Ev.ifp (by omega) (Ev.ifp (by simp) (Ev.ifc (fun (h : d < 0) => bad fun k => ?_) (fun (h6 : ¬ d < 0) => Ev.ifc (fun (h : d > 1048576) => bad fun k => ?_) (fun (h7 : ¬ d > 1048576) => ?_))))))
  · unfold SetOk at k; omega
  · unfold SetOk at k; omega
  rw [z2]
  refine measure_Check.l1.ev (Ev.ifp (by simp) (Ev.ifp (by omega) (Ev.ifp (by simp) (Ev.ifc (fun (h : s < 0) => bad fun k => ?_) (fun (h8 : ¬ s < 0) => Ev.ifc (fun (h : s > 1048576) => bad fun k => ?_) (fun (h9 : ¬ s > 1048576) => ?_))))))
  · unfold SetOk at k; omega
  · unfold SetOk at k; omega
  rw [z3]
  refine measure_Check.l1.ev (Ev.ifn (by simp) (Ev.bind (Ev.now _) ?_))
  refine measure_Check.l2.ev (Ev.ifp (by simp) (Ev.ifp (by omega) (Ev.ifp (by simp) (Ev.ifc (fun (h : o < 1) => bad fun k => ?_) (fun (h10 : ¬ o < 1) => Ev.ifc (fun (h : o > 100) => bad fun k => ?_) (fun (h11 : ¬ o > 100) => ?_))))))
  · unfold SetOk at k; omega
  · unfold SetOk at k; omega
  rw [z1]
  refine measure_Check.l2.ev (Ev.ifp (by simp) (Ev.ifp (by omega) (Ev.ifp (by simp) (Ev.ifc (fun (h : w < 1) => bad fun k => ?_) (fun (h12 : ¬ w < 1) => Ev.ifc (fun (h : w > 100) => bad fun k => ?_) (fun (h13 : ¬ w > 100) => ?_))))))
  · unfold SetOk at k; omega
  · unfold SetOk at k; omega
  rw [z2]
  refine measure_Check.l2.ev (Ev.ifn (by simp) (Ev.some_ (if_pos ?_).symm))
  unfold SetOk; omega
theorem ref_Settings_ev (t l a d s o w : Int) : Ev (fun k => regletref08_Settings.f k t l a d s o w) (decide (SetOk t l a d s o w)) := by
  have bad : ¬ SetOk t l a d s o w → Ev (fun _ : Nat => some false) (decide (SetOk t l a d s o w)) := fun h => Ev.some_ (decide_eq_false h).symm
  have badj : ¬ SetOk t l a d s o w → Ev (fun k : Nat => regletref08_Settings.j0 k true t l a d s o w) (decide (SetOk t l a d s o w)) := fun h => regletref08_Settings.j0.ev (Ev.ifp rfl (bad h))
  have z1 : wrap64 (0 + 1) = 1 := w64 (x := 0 + 1) (by omega) (by omega)
  have z2 : wrap64 (1 + 1) = 2 := w64 (x := 1 + 1) (by omega) (by omega)
  have z3 : wrap64 (2 + 1) = 3 := w64 (x := 2 + 1) (by omega) (by omega)
  refine Ev.ifc (fun h => badj fun k => ?_) (fun h0 => Ev.ifc (fun h => badj fun k => ?_) (fun h1 => Ev.ifc (fun h => badj fun k => ?_) (fun h2 => ?_)))
  · unfold SetOk at k; omega
  · unfold SetOk at k; omega
  · unfold SetOk at k; omega
  by_cases h3 : l > 10000
  · rw [decide_eq_true h3]
    refine badj fun k => ?_
    unfold SetOk at k; omega
  rw [decide_eq_false h3]
  refine regletref08_Settings.j0.ev (Ev.ifn (by simp) ?_)
  refine regletref08_Settings.l0.ev (Ev.ifp (by simp) (Ev.ifp (by omega) (Ev.ifc (fun (h : a < 0) => bad fun k => ?_) (fun (h4 : ¬ a < 0) => Ev.ifc (fun (h : a > 1048576) => bad fun k => ?_) (fun (h5 : ¬ a > 1048576) => ?_)))))
  · unfold SetOk at k; omega
  · unfold SetOk at k; omega
  rw [z1]
  refine regletref08_Settings.l0.ev (Ev.ifp (by simp) (Ev.ifp (by omega) (Ev.ifc (fun (h : d < 0) => bad fun k => ?_) (fun (h6 : ¬ d < 0) => Ev.ifc (fun (h : d > 1048576) => bad fun k => ?_) (fun (h7 : ¬ d > 1048576) => ?_)))))
  · unfold SetOk at k; omega
  · unfold SetOk at k; omega
  rw [z2]
  refine regletref08_Settings.l0.ev (Ev.ifp (by simp) (Ev.ifp (by omega) (Ev.ifc (fun (h : s < 0) => bad fun k => ?_) (fun (h8 : ¬ s < 0) => Ev.ifc (fun (h : s > 1048576) => bad fun k => ?_) (fun (h9 : ¬ s > 1048576) => ?_)))))
  · unfold SetOk at k; omega
  · unfold SetOk at k; omega
  rw [z3]
  refine regletref08_Settings.l0.ev (Ev.ifn (by simp) (Ev.ifc (fun h10 => Ev.ifc (fun h11 => Ev.ifc (fun h12 => Ev.some_ (decide_eq_decide.2 ?_)) (fun h => bad fun k => ?_)) (fun h => bad fun k => ?_)) (fun h => bad fun k => ?_)))
  · unfold SetOk; omega
  · unfold SetOk at k; omega
  · unfold SetOk at k; omega
  · unfold SetOk at k; omega
end Go.Proofs.Ytdkmmddakidieaa.P
