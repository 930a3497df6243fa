/- The plain law of pages: settings, all pages together, the page's examples. -/
import Derived.Test.YtknlneeglkchmaaPx2
import Derived.Test.YtknlneeglkchmaaPx4
import Derived.Test.YtknlneeglkchmaaPx5
import Derived.Test.YtknlneeglkchmaaPx6
import Derived.Test.YtknlneeglkchmaaPx9
import Derived.Test.YtknlneeglkchmaaPg2
namespace Go.Proofs.Ytknlneeglkchmaa.P
open Go.RowKit Go.Proofs.YtknlneeglkchmaaW.PrintWords Go.Proofs.YtknlneeglkchmaaW.PrintLast

theorem rd0 (a : Int) (l : List Int) : rd (a :: l) 0 = a := rfl
theorem rd1 (a b : Int) (l : List Int) : rd (a :: b :: l) 1 = b := rfl
theorem rd2 (a b c : Int) (l : List Int) : rd (a :: b :: c :: l) 2 = c := rfl
theorem w01 : wrap64 (0 + 1) = 1 := w64 (by omega) (by omega)
theorem w12 : wrap64 (1 + 1) = 2 := w64 (by omega) (by omega)
theorem w23 : wrap64 (2 + 1) = 3 := w64 (by omega) (by omega)
def SetOk (s0 s1 s2 s3 s4 s5 s6 : Int) : Prop := (0 ≤ s0 ∧ s0 ≤ 10000) ∧ (0 ≤ s1 ∧ s1 ≤ 10000) ∧ (0 ≤ s2 ∧ s2 ≤ 1048576) ∧ (0 ≤ s3 ∧ s3 ≤ 1048576) ∧ (0 ≤ s4 ∧ s4 ≤ 1048576) ∧ (1 ≤ s5 ∧ s5 ≤ 100) ∧ (1 ≤ s6 ∧ s6 ≤ 100)
open Classical in
noncomputable def errS (p : Prop) : Int := if p then 0 else 80
theorem errS_yes {p : Prop} (h : p) : errS p = 0 := by unfold errS; exact if_pos h
theorem errS_no {p : Prop} (h : ¬ p) : errS p = 80 := by unfold errS; exact if_neg h

theorem measure_Check_ev (s0 s1 s2 s3 s4 s5 s6 : Int) : Ev (fun k => measure_Check.f k s0 s1 s2 s3 s4 s5 s6) (errS (SetOk s0 s1 s2 s3 s4 s5 s6)) := by
  have no : ¬ SetOk s0 s1 s2 s3 s4 s5 s6 → 80 = errS (SetOk s0 s1 s2 s3 s4 s5 s6) := fun h => (errS_no h).symm
  refine Ev.bind (Ev.now _) (measure_Check.l0.ev (Ev.ifp (by simp) (Ev.ifp (by omega) (Ev.ifp (by simp) ?_))))
  rw [rd0, w01]
  refine Ev.ifc (fun h => Ev.some_ (no (by unfold SetOk; omega))) (fun a0 => Ev.ifc (fun h => Ev.some_ (no (by unfold SetOk; omega))) (fun a1 => measure_Check.l0.ev (Ev.ifp (by simp) (Ev.ifp (by omega) (Ev.ifp (by simp) ?_)))))
  rw [rd1, w12]
  refine Ev.ifc (fun h => Ev.some_ (no (by unfold SetOk; omega))) (fun a2 => Ev.ifc (fun h => Ev.some_ (no (by unfold SetOk; omega))) (fun a3 => measure_Check.l0.ev (Ev.ifn (by simp) (Ev.bind (Ev.now _) ?_))))
  refine measure_Check.l1.ev (Ev.ifp (by simp) (Ev.ifp (by omega) (Ev.ifp (by simp) ?_)))
  rw [rd0, w01]
  refine Ev.ifc (fun h => Ev.some_ (no (by unfold SetOk; omega))) (fun a4 => Ev.ifc (fun h => Ev.some_ (no (by unfold SetOk; omega))) (fun a5 => measure_Check.l1.ev (Ev.ifp (by simp) (Ev.ifp (by omega) (Ev.ifp (by simp) ?_)))))
  rw [rd1, w12]
  refine Ev.ifc (fun h => Ev.some_ (no (by unfold SetOk; omega))) (fun a6 => Ev.ifc (fun h => Ev.some_ (no (by unfold SetOk; omega))) (fun a7 => measure_Check.l1.ev (Ev.ifp (by simp) (Ev.ifp (by omega) (Ev.ifp (by simp) ?_)))))
  rw [rd2, w23]
  refine Ev.ifc (fun h => Ev.some_ (no (by unfold SetOk; omega))) (fun a8 => Ev.ifc (fun h => Ev.some_ (no (by unfold SetOk; omega))) (fun a9 => measure_Check.l1.ev (Ev.ifn (by simp) (Ev.bind (Ev.now _) ?_))))
  refine measure_Check.l2.ev (Ev.ifp (by simp) (Ev.ifp (by omega) (Ev.ifp (by simp) ?_)))
  rw [rd0, w01]
  refine Ev.ifc (fun h => Ev.some_ (no (by unfold SetOk; omega))) (fun b0 => Ev.ifc (fun h => Ev.some_ (no (by unfold SetOk; omega))) (fun b1 => measure_Check.l2.ev (Ev.ifp (by simp) (Ev.ifp (by omega) (Ev.ifp (by simp) ?_)))))
  rw [rd1, w12]
  refine Ev.ifc (fun h => Ev.some_ (no (by unfold SetOk; omega))) (fun b2 => Ev.ifc (fun h => Ev.some_ (no (by unfold SetOk; omega))) (fun b3 => measure_Check.l2.ev (Ev.ifn (by simp) (Ev.some_ (errS_yes (by unfold SetOk; omega)).symm))))

theorem ref_Settings_ev (s0 s1 s2 s3 s4 s5 s6 : Int) : Ev (fun k => regletref08_Settings.f k s0 s1 s2 s3 s4 s5 s6) (isTrue (SetOk s0 s1 s2 s3 s4 s5 s6)) := by
  have no : ¬ SetOk s0 s1 s2 s3 s4 s5 s6 → false = isTrue (SetOk s0 s1 s2 s3 s4 s5 s6) := fun h => (isTrue_no h).symm
  refine Ev.ifc (fun h => regletref08_Settings.j0.ev (Ev.ifp rfl (Ev.some_ (no (by unfold SetOk; omega))))) (fun a0 => ?_)
  refine Ev.ifc (fun h => regletref08_Settings.j0.ev (Ev.ifp rfl (Ev.some_ (no (by unfold SetOk; omega))))) (fun a1 => ?_)
  refine Ev.ifc (fun h => regletref08_Settings.j0.ev (Ev.ifp rfl (Ev.some_ (no (by unfold SetOk; omega))))) (fun a2 => ?_)
  refine regletref08_Settings.j0.ev (Ev.ifc (fun h => Ev.some_ (no (by have := of_decide_eq_true h; unfold SetOk; omega))) (fun a3' => ?_))
  have a3 : ¬ s1 > 10000 := fun h => a3' (decide_eq_true h)
  refine regletref08_Settings.l0.ev (Ev.ifp (by simp) (Ev.ifp (by omega) ?_))
  rw [rd0, w01]
  refine Ev.ifc (fun h => Ev.some_ (no (by unfold SetOk; omega))) (fun a4 => Ev.ifc (fun h => Ev.some_ (no (by unfold SetOk; omega))) (fun a5 => regletref08_Settings.l0.ev (Ev.ifp (by simp) (Ev.ifp (by omega) ?_))))
  rw [rd1, w12]
  refine Ev.ifc (fun h => Ev.some_ (no (by unfold SetOk; omega))) (fun a6 => Ev.ifc (fun h => Ev.some_ (no (by unfold SetOk; omega))) (fun a7 => regletref08_Settings.l0.ev (Ev.ifp (by simp) (Ev.ifp (by omega) ?_))))
  rw [rd2, w23]
  refine Ev.ifc (fun h => Ev.some_ (no (by unfold SetOk; omega))) (fun a8 => Ev.ifc (fun h => Ev.some_ (no (by unfold SetOk; omega))) (fun a9 => regletref08_Settings.l0.ev (Ev.ifn (by simp) ?_)))
  refine Ev.ifc (fun b0 => ?_) (fun h => Ev.some_ (no (by unfold SetOk; omega)))
  refine Ev.ifc (fun b1 => ?_) (fun h => Ev.some_ (no (by unfold SetOk; omega)))
  refine Ev.ifc (fun b2 => ?_) (fun h => Ev.some_ (no (by unfold SetOk; omega)))
  refine Ev.some_ ?_
  by_cases c : s6 ≤ 100
  · rw [decide_eq_true c]; exact (isTrue_yes (by unfold SetOk; omega)).symm
  · rw [decide_eq_false c]; exact no (by unfold SetOk; omega)

def HgtOk (h : Int) : Prop := 1 ≤ h ∧ h ≤ 1073741824
open Classical in
/-- the error of a height and settings -/
noncomputable def errC (h : Int) (p : Prop) : Int := if HgtOk h then errS p else 41
theorem errC_yes {h : Int} {p : Prop} (c : HgtOk h) : errC h p = errS p := by unfold errC; exact if_pos c
theorem errC_no {h : Int} {p : Prop} (c : ¬ HgtOk h) : errC h p = 41 := by unfold errC; exact if_neg c
theorem pages_Check_ev (h s0 s1 s2 s3 s4 s5 s6 : Int) : Ev (fun k => pages_Check.f k h s0 s1 s2 s3 s4 s5 s6) (errC h (SetOk s0 s1 s2 s3 s4 s5 s6)) := by
  refine Ev.ifc (fun c => Ev.some_ (errC_no (by unfold HgtOk; omega)).symm) (fun c1 => Ev.ifc (fun c => Ev.some_ (errC_no (by unfold HgtOk; omega)).symm) (fun c2 => ?_))
  rw [errC_yes (by unfold HgtOk; omega)]
  exact Ev.bind (measure_Check_ev s0 s1 s2 s3 s4 s5 s6) (Ev.now _)
theorem ref_Check_ev (h s0 s1 s2 s3 s4 s5 s6 : Int) : Ev (fun k => regletref12_Check.f k h s0 s1 s2 s3 s4 s5 s6) (isTrue (HgtOk h ∧ SetOk s0 s1 s2 s3 s4 s5 s6)) := by
  refine Ev.ifc (fun c1 => Ev.ifc (fun c2 => ?_) (fun c => Ev.some_ (isTrue_no (by unfold HgtOk; omega)).symm)) (fun c => Ev.some_ (isTrue_no (by unfold HgtOk; omega)).symm)
  refine Ev.bind (ref_Settings_ev s0 s1 s2 s3 s4 s5 s6) (Ev.some_ ?_)
  by_cases c : SetOk s0 s1 s2 s3 s4 s5 s6
  · rw [isTrue_yes c, isTrue_yes ⟨⟨c1, c2⟩, c⟩]
  · rw [isTrue_no c, isTrue_no (fun h => c h.2)]

theorem pages_Paginate_no (l : List S42) {h s0 s1 s2 s3 s4 s5 s6 : Int} (c : ¬ (HgtOk h ∧ SetOk s0 s1 s2 s3 s4 s5 s6)) : Ev (fun k => pages_Paginate.f k l h s0 s1 s2 s3 s4 s5 s6) ([], errC h (SetOk s0 s1 s2 s3 s4 s5 s6)) := by
  refine Ev.bind (pages_Check_ev h s0 s1 s2 s3 s4 s5 s6) (Ev.ifn ?_ (Ev.now _))
  by_cases d : HgtOk h
  · rw [errC_yes d, errS_no (fun e => c ⟨d, e⟩)]; omega
  · rw [errC_no d]; omega
theorem errC_ok {h : Int} {p : Prop} (c : HgtOk h ∧ p) : errC h p = 0 := by rw [errC_yes c.1, errS_yes c.2]
theorem pages_Paginate_wrong {l : List S42} (hw : Wf l) {h s0 s1 s2 s3 s4 s5 s6 : Int} (c : HgtOk h ∧ SetOk s0 s1 s2 s3 s4 s5 s6) (hr : ¬ RightL l) : Ev (fun k => pages_Paginate.f k l h s0 s1 s2 s3 s4 s5 s6) ([], 1) := by
  refine Ev.bind (pages_Check_ev h s0 s1 s2 s3 s4 s5 s6) (Ev.ifp (errC_ok c) (Ev.bind (pages_Right_ev hw) (Ev.ifn ?_ (Ev.some_ ?_))))
  · rw [errOf_no hr]; omega
  · rw [errOf_no hr]
theorem pages_Paginate_yes {l : List S42} (hw : Wf l) (hf : Few l) {h s0 s1 s2 s3 s4 s5 s6 : Int} (c : HgtOk h ∧ SetOk s0 s1 s2 s3 s4 s5 s6) (hr : RightL l) :
    ∃ s, Chain l s5 s6 h 0 s ∧ Ev (fun k => pages_Paginate.f k l h s0 s1 s2 s3 s4 s5 s6) (s, 0) ∧ Ev (fun k => regletref12_Paginate.f k l h s0 s1 s2 s3 s4 s5 s6) s := by
  obtain ⟨s, hs, he⟩ := chain_ev hw hf hr h s0 s1 s2 s3 s4 s5 s6 l.length 0 (by omega) (by omega)
  obtain ⟨e1, e2⟩ := he [] (by simp)
  exact ⟨s, hs, Ev.bind (pages_Check_ev h s0 s1 s2 s3 s4 s5 s6) (Ev.ifp (errC_ok c) (Ev.bind (pages_Right_ev hw) (Ev.ifp (errOf_yes hr) e1))), e2⟩

theorem same_loop (l m : List Int) (hl : (l.length : Int) ≤ 4611686018427387904) (h : l.length = m.length) : ∀ (d : Nat) (i : Int), 0 ≤ i → i + d = l.length → (∀ j, 0 ≤ j → j < i → rd l j = rd m j) →
    Ev (fun k => regletref12_Same.l0 k l m i) (isTrue (l = m)) := by
  intro d
  induction d with
  | zero =>
    intro i h0 hi hj
    refine regletref12_Same.l0.ev (Ev.ifn (by omega) (Ev.some_ (isTrue_yes ?_).symm))
    apply List.ext_getElem h
    intro n h1 h2
    have := hj n (by omega) (by omega)
    simpa [rd, List.getD_eq_getElem?_getD, h1, h2] using this
  | succ d ih =>
    intro i h0 hi hj
    refine regletref12_Same.l0.ev (Ev.ifp (by omega) (Ev.ifp h0 (Ev.ifp (by omega) (Ev.ifc (fun e => ?_) (fun e => Ev.some_ (isTrue_no (fun q => e (by rw [q]))).symm)))))
    rw [w64 (x := i + 1) (by omega) (by omega)]
    refine ih (i + 1) (by omega) (by omega) (fun j a b => ?_)
    by_cases c : j = i
    · subst c; exact e
    · exact hj j a (by omega)
theorem same_ev (l m : List Int) (hl : (l.length : Int) ≤ 4611686018427387904) : Ev (fun k => regletref12_Same.f k l m) (isTrue (l = m)) := by
  refine Ev.ifc (fun h => same_loop l m hl (by omega) l.length 0 (by omega) (by omega) (fun j a b => by omega)) (fun h => Ev.some_ (isTrue_no (fun e => h (by rw [e]))).symm)

theorem awake_ev : Ev regletlaw12_awake.f true := Ev.of regletlaw12_awake.mono (k := 40) (by decide +kernel)
theorem tried_ev {l : List S42} (hw : Wf l) (h s0 s1 s2 s3 s4 s5 s6 : Int) : Ev (fun k => regletlaw12_tried.f k l h s0 s1 s2 s3 s4 s5 s6) (isTrue (l.length ≤ 200 ∧ RightL l ∧ HgtOk h ∧ SetOk s0 s1 s2 s3 s4 s5 s6)) := by
  refine Ev.ifc (fun c => ?_) (fun c => Ev.some_ (isTrue_no (fun h => by have := h.1; omega)).symm)
  refine Ev.bind (ref_Right_ev hw) ?_
  refine Ev.ifc (fun d => Ev.bind (ref_Check_ev h s0 s1 s2 s3 s4 s5 s6) (Ev.some_ ?_)) (fun d => Ev.some_ (isTrue_no (fun h => d (isTrue_yes h.2.1))).symm)
  have d := isTrue_iff.1 d
  by_cases e : HgtOk h ∧ SetOk s0 s1 s2 s3 s4 s5 s6
  · rw [isTrue_yes e, isTrue_yes ⟨by omega, d, e⟩]
  · rw [isTrue_no e, isTrue_no (fun h => e h.2.2)]
theorem wf_of {l : List S42} (h : OkList 32 ok42 l) : Wf l := by
  obtain ⟨h1, _, h3⟩ := h
  refine ⟨by omega, fun i a b => ?_⟩
  obtain ⟨x, y, z, _⟩ := h3 _ (rdS_mem a b)
  exact ⟨lit64 x, lit64 y, lit64 z⟩
theorem few_of {l : List S42} (h : l.length ≤ 200) : Few l := by unfold Few; omega
end Go.Proofs.Ytknlneeglkchmaa.P
