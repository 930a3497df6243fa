/- Items: when a list of them is right, and where a line may end: the program's answer and the reference's. -/
import Derived.Test.YtdkmmddakidieaaPx24
import Derived.Test.YtdkmmddakidieaaPx26
import Derived.Test.YtdkmmddakidieaaPx27
import Derived.Test.YtdkmmddakidieaaPx29
import Derived.Test.YtdkmmddakidieaaPx30
import Derived.Test.YtdkmmddakidieaaPx31
import Derived.Test.YtdkmmddakidieaaPx33
import Derived.Test.YtdkmmddakidieaaIt
namespace Go.Proofs.Ytdkmmddakidieaa.P
open Go.RowKit Go.Proofs.YtdkmmddakidieaaW.PrintWords Go.Proofs.YtdkmmddakidieaaW.PrintLast
/-- must a line end there? -/
def Fc (x : S34) : Prop := x.f0 = 3 ∧ x.f5 ≤ -10000
instance (x : S34) : Decidable (Fc x) := by unfold Fc; infer_instance
theorem fcd_eq (x : S34) : items_Forced.f x.f0 x.f1 x.f2 x.f3 x.f4 x.f5 x.f6 x.f7 x.f8 = some (decide (Fc x)) := by
  unfold items_Forced.f Fc
  by_cases h : x.f0 = 3
  · rw [if_pos h]; simp [h]
  · rw [if_neg h]; simp [h]
theorem rfcd_eq (x : S34) : regletref07_Forced.f x.f0 x.f1 x.f2 x.f3 x.f4 x.f5 x.f6 x.f7 x.f8 = some (decide (Fc x)) := by
  unfold regletref07_Forced.f Fc
  by_cases h : x.f0 = 3
  · rw [if_pos h]; simp [h]
  · rw [if_neg h]; simp [h]
/-- are items right, from a place in the text on? -/
def RtL : Int → List S34 → Prop
 | _, [] => True
 | p, x :: r => (x.f7 = p ∧ x.f7 ≤ x.f8 ∧ x.f8 ≤ 65536) ∧ OkI x ∧ RtL x.f8 r
open Classical in
noncomputable def rtB (p : Int) (l : List S34) : Bool := if RtL p l then true else false
theorem rtB_yes {p : Int} {l : List S34} (h : RtL p l) : rtB p l = true := by unfold rtB; exact if_pos h
theorem rtB_no {p : Int} {l : List S34} (h : ¬ RtL p l) : rtB p l = false := by unfold rtB; exact if_neg h
theorem rtB_iff {p : Int} {l : List S34} : rtB p l = true ↔ RtL p l := by
  by_cases h : RtL p l
  · exact ⟨fun _ => h, fun _ => rtB_yes h⟩
  · exact ⟨(fun e => by rw [rtB_no h] at e; cases e), fun q => absurd q h⟩
theorem rtB_nil (p : Int) : rtB p [] = true := rtB_yes (show RtL p [] from trivial)
theorem rtB_cons {p : Int} {x : S34} {r : List S34} (h : x.f7 = p ∧ x.f7 ≤ x.f8 ∧ x.f8 ≤ 65536) (ho : OkI x) : rtB p (x :: r) = rtB x.f8 r := by
  by_cases q : RtL x.f8 r
  · rw [rtB_yes q, rtB_yes (show RtL p (x :: r) from ⟨h, ho, q⟩)]
  · rw [rtB_no q, rtB_no (show ¬ RtL p (x :: r) from fun z => q z.2.2)]
theorem rdT_mem (l : List S34) (i : Nat) (h : i < l.length) : rd_T34 l (i : Int) = l[i] := by
  rw [rdT_nat, List.getD_eq_getElem?_getD, List.getElem?_eq_getElem h]; rfl
theorem drop_rd (l : List S34) (i : Nat) (h : i < l.length) : l.drop i = rd_T34 l (i : Int) :: l.drop (i + 1) := by
  rw [rdT_mem l i h]; exact List.drop_eq_getElem_cons h
theorem nx (i : Nat) (h : i < 1000000000) : wrap64 ((i : Int) + 1) = ((i + 1 : Nat) : Int) := by rw [w64 (by omega) (by omega)]; omega
theorem iR (l : List S34) (hl : l.length ≤ 262144) : ∀ m p (i : Nat), i + m = l.length → Ev (fun k => items_Right.l0 k p l (l.length : Int) (i : Int)) (if rtB p (l.drop i) = true then 0 else 70)
 | 0, p, i, e => by
  refine items_Right.l0.ev (Ev.ifn (by omega) (Ev.some_ ?_))
  rw [List.drop_of_length_le (by omega), rtB_nil]; rfl
 | m + 1, p, i, e => by
  have hi : i < l.length := by omega
  have no : ¬ RtL p (l.drop i) → Ev (fun _ => some (70 : Int)) (if rtB p (l.drop i) = true then 0 else 70) := fun h => Ev.some_ (by rw [rtB_no h]; rfl)
  rw [drop_rd l i hi] at no ⊢
  refine items_Right.l0.ev (Ev.ifp (by omega) (Ev.ifp (by omega) (Ev.ifp (by omega) ?_)))
  refine Ev.ifc (fun h1 => Ev.ifc (fun h2 => no (fun q => by have := q.1; omega)) (fun h2 => Ev.ifc (fun h3 => no (fun q => by have := q.1; omega)) (fun h3 => Ev.bind (fits_ev _) (Ev.ifc (fun h4 => ?_) (fun h4 => no (fun q => h4 (okB_yes q.2.1))))))) (fun h1 => no (fun q => h1 q.1.1))
  rw [rtB_cons ⟨h1, by omega, by omega⟩ (okB_iff.1 h4), nx i (by omega)]
  exact iR l hl m _ (i + 1) (by omega)
theorem rR (l : List S34) (hl : l.length ≤ 262144) : ∀ m p (i : Nat), i + m = l.length → (i = 0 → (rd_T34 l 0).f7 = p) → (0 < i → (rd_T34 l ((i : Int) - 1)).f8 = p) → Ev (fun k => regletref07_Right.l0 k l (i : Int)) (rtB p (l.drop i))
 | 0, p, i, e, _, _ => by
  refine regletref07_Right.l0.ev (Ev.ifn (by omega) (Ev.some_ ?_))
  rw [List.drop_of_length_le (by omega), rtB_nil]
 | m + 1, p, i, e, h0, hp => by
  have hi : i < l.length := by omega
  have no : ¬ RtL p (l.drop i) → Ev (fun _ => some false) (rtB p (l.drop i)) := fun h => Ev.some_ (rtB_no h).symm
  rw [drop_rd l i hi] at no ⊢
  have go : (rd_T34 l (i : Int)).f7 = p → Ev (fun k => if ((rd_T34 l i).f8) < ((rd_T34 l i).f7) then (some false) else (if ((rd_T34 l i).f8) > 65536 then (some false) else ((regletref07_one.f k ((rd_T34 l i).f0) ((rd_T34 l i).f1) ((rd_T34 l i).f2) ((rd_T34 l i).f3) ((rd_T34 l i).f4) ((rd_T34 l i).f5) ((rd_T34 l i).f6) ((rd_T34 l i).f7) ((rd_T34 l i).f8)).bind fun t => (if t = true then (regletref07_Right.l0 k l (wrap64 ((i : Int) + 1))) else (some false))))) (rtB p (rd_T34 l (i : Int) :: l.drop (i + 1))) := by
    intro h1
    refine Ev.ifc (fun h2 => no (fun q => by have := q.1; omega)) (fun h2 => Ev.ifc (fun h3 => no (fun q => by have := q.1; omega)) (fun h3 => Ev.bind (one_ev _) (Ev.ifc (fun h4 => ?_) (fun h4 => no (fun q => h4 (okB_yes q.2.1))))))
    rw [rtB_cons ⟨h1, by omega, by omega⟩ (okB_iff.1 h4), nx i (by omega)]
    refine rR l hl m _ (i + 1) (by omega) (by omega) (fun _ => ?_)
    rw [show ((i + 1 : Nat) : Int) - 1 = (i : Int) by omega]
  refine regletref07_Right.l0.ev (Ev.ifp (by omega) (Ev.ifc (fun hq => Ev.ifp (by omega) ?_) (fun hq => Ev.ifp (by omega) ?_)))
  · have hw : wrap64 ((i : Int) - 1) = (i : Int) - 1 := w64 (by omega) (by omega)
    rw [hw]
    refine Ev.ifp (by omega) (Ev.ifp (by omega) (Ev.ifc (fun h1 => go (h1.trans (hp (by omega)))) (fun h1 => no (fun q => h1 (q.1.1.trans (hp (by omega)).symm)))))
  · have z : i = 0 := by omega
    exact go (by rw [z]; exact h0 z)
/-- may items be a paragraph's? -/
noncomputable def rightB (l : List S34) : Bool := decide (0 < l.length ∧ l.length ≤ 262144 ∧ Fc (rd_T34 l ((l.length : Int) - 1))) && rtB 0 l
theorem rightB_of {l : List S34} (h : rightB l = true) : (0 < l.length ∧ l.length ≤ 262144 ∧ Fc (rd_T34 l ((l.length : Int) - 1))) ∧ RtL 0 l := by
  unfold rightB at h
  rw [Bool.and_eq_true, decide_eq_true_iff, rtB_iff] at h
  exact h
theorem rightB_not {l : List S34} (h : ¬ (0 < l.length ∧ l.length ≤ 262144 ∧ Fc (rd_T34 l ((l.length : Int) - 1)))) : rightB l = false := by
  unfold rightB; rw [decide_eq_false h]; rfl
theorem rightB_go {l : List S34} (h : 0 < l.length ∧ l.length ≤ 262144 ∧ Fc (rd_T34 l ((l.length : Int) - 1))) : rightB l = rtB 0 l := by
  unfold rightB; rw [decide_eq_true h]; rfl
theorem Right_ev (l : List S34) : Ev (fun k => items_Right.f k l) (if rightB l = true then 0 else 70) := by
  have no : ¬ (0 < l.length ∧ l.length ≤ 262144 ∧ Fc (rd_T34 l ((l.length : Int) - 1))) → Ev (fun k => items_Right.j0 k l true) (if rightB l = true then 0 else 70) := fun h =>
    items_Right.j0.ev (Ev.ifp rfl (Ev.some_ (by rw [rightB_not h]; rfl)))
  unfold items_Right.f
  refine Ev.ifc (fun h => no (fun q => by omega)) (fun h => Ev.ifc (fun h1 => no (fun q => by omega)) (fun h1 => ?_))
  rw [w64 (x := (l.length : Int) - 1) (by omega) (by omega)]
  refine Ev.ifp (by omega) (Ev.ifp (by omega) (Ev.bind (Ev.opt (fcd_eq _)) ?_))
  by_cases hf : Fc (rd_T34 l ((l.length : Int) - 1))
  · rw [decide_eq_true hf]
    refine items_Right.j0.ev (Ev.ifn (by simp) ?_)
    rw [rightB_go ⟨by omega, by omega, hf⟩]
    exact iR l (by omega) l.length 0 0 (by omega)
  · rw [decide_eq_false hf]
    exact no (fun q => hf q.2.2)
theorem rRight_ev (l : List S34) : Ev (fun k => regletref07_Right.f k l) (rightB l) := by
  have no : ¬ (0 < l.length ∧ l.length ≤ 262144 ∧ Fc (rd_T34 l ((l.length : Int) - 1))) → Ev (fun k => regletref07_Right.j0 k l true) (rightB l) := fun h =>
    regletref07_Right.j0.ev (Ev.ifp rfl (Ev.some_ (rightB_not h).symm))
  unfold regletref07_Right.f
  refine Ev.ifc (fun h => no (fun q => by omega)) (fun h => Ev.ifc (fun h1 => no (fun q => by omega)) (fun h1 => ?_))
  rw [w64 (x := (l.length : Int) - 1) (by omega) (by omega)]
  refine Ev.ifp (by omega) (Ev.ifp (by omega) (Ev.bind (Ev.opt (rfcd_eq _)) (Ev.ifc (fun hf => Ev.ifp (by omega) ?_) (fun hf => no (fun q => hf (decide_eq_true q.2.2))))))
  have hf := of_decide_eq_true hf
  rw [rightB_go ⟨by omega, by omega, hf⟩]
  by_cases hz : (rd_T34 l 0).f7 = 0
  · refine regletref07_Right.j0.ev (Ev.ifn (by simp [hz]) ?_)
    exact rR l (by omega) l.length 0 0 (by omega) (fun _ => hz) (fun h => absurd h (by omega))
  · refine regletref07_Right.j0.ev (Ev.ifp (by simp [hz]) (Ev.some_ ?_))
    have hd := drop_rd l 0 (by omega)
    rw [List.drop_zero] at hd
    rw [hd]
    exact (rtB_no (show ¬ RtL 0 (_ :: _) from fun q => hz q.1.1)).symm
/-- may a line end there? -/
def legB (l : List S34) (a : Int) : Bool := if a < 0 then false else if a ≥ (l.length : Int) then false else if (rd_T34 l a).f0 = 3 then decide ((rd_T34 l a).f5 < 10000) else if (rd_T34 l a).f0 = 2 then if (rd_T34 l a).f4 = true then false else if a > 0 then (rd_T34 l (a - 1)).f0 == 1 else false else false
theorem Legal_ev (l : List S34) (hl : l.length ≤ 281474976710656) (a : Int) : Ev (fun k => items_Legal.f k l a) (legB l a) := by
  unfold items_Legal.f legB
  refine Ev.ifc (fun h => items_Legal.j0.ev (Ev.ifp rfl (Ev.some_ (if_pos h).symm))) (fun h => ?_)
  rw [if_neg h]
  refine items_Legal.j0.ev (Ev.ifc (fun h1 => Ev.some_ (if_pos (of_decide_eq_true h1)).symm) (fun h1 => ?_))
  have h1 : ¬ a ≥ (l.length : Int) := fun q => h1 (decide_eq_true q)
  rw [if_neg h1]
  refine Ev.ifp (by omega) (Ev.ifp (by omega) (Ev.ifc (fun h2 => Ev.some_ (if_pos h2).symm) (fun h2 => ?_)))
  rw [if_neg h2]
  refine Ev.ifc (fun h3 => ?_) (fun h3 => Ev.some_ (if_neg h3).symm)
  rw [if_pos h3]
  refine Ev.ifc (fun h4 => Ev.some_ (if_pos h4).symm) (fun h4 => ?_)
  rw [if_neg h4]
  refine Ev.ifc (fun h5 => ?_) (fun h5 => Ev.some_ (if_neg h5).symm)
  rw [if_pos h5, w64 (x := a - 1) (by omega) (by omega)]
  exact Ev.ifp (by omega) (Ev.ifp (by omega) (Ev.some_ rfl))
theorem rLegal_ev (l : List S34) (hl : l.length ≤ 281474976710656) (a : Int) : Ev (fun k => regletref07_Legal.f k l a) (legB l a) := by
  unfold regletref07_Legal.f legB
  refine Ev.ifc (fun h => regletref07_Legal.j0.ev (Ev.ifp rfl (Ev.some_ (if_pos h).symm))) (fun h => ?_)
  rw [if_neg h]
  refine regletref07_Legal.j0.ev (Ev.ifc (fun h1 => Ev.some_ (if_pos (of_decide_eq_true h1)).symm) (fun h1 => ?_))
  have h1 : ¬ a ≥ (l.length : Int) := fun q => h1 (decide_eq_true q)
  rw [if_neg h1]
  refine Ev.ifp (by omega) (Ev.ifp (by omega) (Ev.ifc (fun h2 => Ev.some_ (if_pos h2).symm) (fun h2 => ?_)))
  rw [if_neg h2]
  refine Ev.ifc (fun h3 => ?_) (fun h3 => Ev.some_ (if_neg h3).symm)
  rw [if_pos h3]
  refine Ev.ifc (fun h4 => Ev.some_ (if_pos h4).symm) (fun h4 => ?_)
  rw [if_neg h4]
  refine Ev.ifc (fun h5 => ?_) (fun h5 => Ev.some_ (if_neg h5).symm)
  rw [if_pos h5, w64 (x := a - 1) (by omega) (by omega)]
  exact Ev.ifp (by omega) (Ev.ifp (by omega) (Ev.some_ rfl))
end Go.Proofs.Ytdkmmddakidieaa.P
