/- A line's demerits: the program's and the reference's are one number. -/
import Derived.Test.YtdkmmddakidieaaPx12
import Derived.Test.YtdkmmddakidieaaPx19
import Derived.Test.YtdkmmddakidieaaSc4
namespace Go.Proofs.Ytdkmmddakidieaa.P
open Go.RowKit Go.Proofs.YtdkmmddakidieaaW.PrintWords Go.Proofs.YtdkmmddakidieaaW.PrintLast Go.Proofs.YtdkmmddakidieaaW.PrintMore
open Go.Proofs.Ytdkmmddakidieaa.BadM (clamp clamp_le clamp_ge clamp_id clamp_clamp)
theorem mulM_range (a b : Int) : -1152921504606846976 ≤ mulM a b ∧ mulM a b ≤ 1152921504606846976 := by
  have : 0 ≤ absC a * absC b := Int.mul_nonneg (absC_range a).1 (absC_range b).1
  unfold mulM signM
  split <;> omega
theorem demerits_both (a b p : Int) : ∃ r, Ev (fun k => scaled_Demerits.f k a b p) r ∧ Ev (fun k => regletref01_Demerits.f k a b p) r := by
  have hd := mulM_range (addM a b) (addM a b)
  have hp := mulM_range p p
  have mx0 : ∀ x : Int, (if x < 0 then 0 else x) = mx 0 x := by intro x; unfold mx; repeat' split; all_goals omega
  have fin : ∀ x : Int, Ev (fun _ : Nat => if x < 0 then some 0 else some x) (mx 0 x) := by
    intro x
    rw [← mx0]
    exact Ev.ifc (fun c => Ev.some_ (by rw [if_pos c])) (fun c => Ev.some_ (by rw [if_neg c]))
  by_cases c : p ≥ 0
  · refine ⟨mx 0 (addM (mulM (addM a b) (addM a b)) (mulM p p)), ?_, ?_⟩
    · exact Ev.bind (Ev.opt (scaled_Add_eq a b)) (Ev.bind (scaled_Mul_ev _ _) (Ev.ifp c (Ev.bind (scaled_Mul_ev p p) (Ev.bind (Ev.opt (scaled_Add_eq _ _)) (Ev.now _)))))
    · exact Ev.bind (Ev.opt (ref_Add_eq a b)) (Ev.bind (ref_Mul_ev _ _) (Ev.ifp c (Ev.bind (ref_Mul_ev p p) (Ev.bind (Ev.opt (ref_Add_eq _ _)) (fin _)))))
  · by_cases c2 : p > -10000
    · refine ⟨mx 0 (clamp (clamp (mulM (addM a b) (addM a b)) - clamp (mulM p p))), ?_, ?_⟩
      · exact Ev.bind (Ev.opt (scaled_Add_eq a b)) (Ev.bind (scaled_Mul_ev _ _) (Ev.ifn c (Ev.ifp c2 (Ev.bind (scaled_Mul_ev p p) (Ev.bind (Ev.opt (scaled_Sub_eq _ _)) (Ev.now _))))))
      · refine Ev.bind (Ev.opt (ref_Add_eq a b)) (Ev.bind (ref_Mul_ev _ _) (Ev.ifn c (Ev.ifp c2 (Ev.bind (ref_Mul_ev p p) ?_))))
        rw [w64 (x := -mulM p p) (by omega) (by omega)]
        have e : addM (mulM (addM a b) (addM a b)) (-mulM p p) = clamp (clamp (mulM (addM a b) (addM a b)) - clamp (mulM p p)) := by
          unfold addM
          rw [clamp_id (a := mulM p p) hp.1 hp.2, clamp_id (a := -mulM p p) (by omega) (by omega), Int.sub_eq_add_neg]
        rw [← e]
        exact Ev.bind (Ev.opt (ref_Add_eq _ _)) (fin _)
    · refine ⟨mx 0 (mulM (addM a b) (addM a b)), ?_, ?_⟩
      · exact Ev.bind (Ev.opt (scaled_Add_eq a b)) (Ev.bind (scaled_Mul_ev _ _) (Ev.ifn c (Ev.ifn c2 (Ev.now _))))
      · exact Ev.bind (Ev.opt (ref_Add_eq a b)) (Ev.bind (ref_Mul_ev _ _) (Ev.ifn c (Ev.ifn c2 (fin _))))
end Go.Proofs.Ytdkmmddakidieaa.P
