/- The plain law of pages: settings, all pages together, lists alike. -/
import Derived.Test.YtnlocbjojbgdcaaPb
namespace Go.Proofs.Ytnlocbjojbgdcaa.Vm
open Go
open _root_.Go.RowKit (wrap64)
theorem w01 : wrap64 (0 + 1) = 1 := w64 (by omega) (by omega)
theorem w12 : wrap64 (1 + 1) = 2 := w64 (by omega) (by omega)
theorem w23 : wrap64 (2 + 1) = 3 := w64 (by omega) (by omega)
def SetOk (b : api_Settings) : Prop := (0 ≤ b.1 ∧ b.1 ≤ 10000) ∧ (0 ≤ b.2.1 ∧ b.2.1 ≤ 10000) ∧ (0 ≤ b.2.2.1 ∧ b.2.2.1 ≤ 1048576) ∧ (0 ≤ b.2.2.2.1 ∧ b.2.2.2.1 ≤ 1048576) ∧ (0 ≤ b.2.2.2.2.1 ∧ b.2.2.2.2.1 ≤ 1048576) ∧ (1 ≤ b.2.2.2.2.2.1 ∧ b.2.2.2.2.2.1 ≤ 100) ∧ (1 ≤ b.2.2.2.2.2.2 ∧ b.2.2.2.2.2.2 ≤ 100)
open Classical in
noncomputable def errS (p : Prop) : Int := if p then 0 else 80
theorem errS_yes {p : Prop} (h : p) : errS p = 0 := by unfold errS; exact if_pos h
theorem errS_no {p : Prop} (h : ¬ p) : errS p = 80 := by unfold errS; exact if_neg h
theorem measure_Check_ev (b : api_Settings) : Ev (fun k => measure_Check.f k b) (errS (SetOk b)) := by
 have no : ¬ SetOk b → 80 = errS (SetOk b) := fun h => (errS_no h).symm
 refine Ev.st (fun k => by rw [measure_Check.f, measure_Check.l0]) (Ev.dp (by simp) (Ev.ifp (by simp) (Ev.ix rfl ?_)))
 rw [w01]
 refine Ev.dc (fun h => Ev.some_ (no (by unfold SetOk; omega))) (fun a0 => Ev.dc (fun h => Ev.some_ (no (by unfold SetOk; omega))) (fun a1 => Ev.st (fun k => by rw [measure_Check.l0]) (Ev.dp (by simp) (Ev.ifp (by simp) (Ev.ix rfl ?_)))))
 rw [w12]
 refine Ev.dc (fun h => Ev.some_ (no (by unfold SetOk; omega))) (fun a2 => Ev.dc (fun h => Ev.some_ (no (by unfold SetOk; omega))) (fun a3 => Ev.st (fun k => by rw [measure_Check.l0]) (Ev.dn (by simp) ?_)))
 refine Ev.st (fun k => by rw [measure_Check.l1]) (Ev.dp (by simp) (Ev.ifp (by simp) (Ev.ix rfl ?_)))
 rw [w01]
 refine Ev.dc (fun h => Ev.some_ (no (by unfold SetOk; omega))) (fun a4 => Ev.dc (fun h => Ev.some_ (no (by unfold SetOk; omega))) (fun a5 => Ev.st (fun k => by rw [measure_Check.l1]) (Ev.dp (by simp) (Ev.ifp (by simp) (Ev.ix rfl ?_)))))
 rw [w12]
 refine Ev.dc (fun h => Ev.some_ (no (by unfold SetOk; omega))) (fun a6 => Ev.dc (fun h => Ev.some_ (no (by unfold SetOk; omega))) (fun a7 => Ev.st (fun k => by rw [measure_Check.l1]) (Ev.dp (by simp) (Ev.ifp (by simp) (Ev.ix rfl ?_)))))
 rw [w23]
 refine Ev.dc (fun h => Ev.some_ (no (by unfold SetOk; omega))) (fun a8 => Ev.dc (fun h => Ev.some_ (no (by unfold SetOk; omega))) (fun a9 => Ev.st (fun k => by rw [measure_Check.l1]) (Ev.dn (by simp) ?_)))
 refine Ev.st (fun k => by rw [measure_Check.l2]) (Ev.dp (by simp) (Ev.ifp (by simp) (Ev.ix rfl ?_)))
 rw [w01]
 refine Ev.dc (fun h => Ev.some_ (no (by unfold SetOk; omega))) (fun b0 => Ev.dc (fun h => Ev.some_ (no (by unfold SetOk; omega))) (fun b1 => Ev.st (fun k => by rw [measure_Check.l2]) (Ev.dp (by simp) (Ev.ifp (by simp) (Ev.ix rfl ?_)))))
 rw [w12]
 refine Ev.dc (fun h => Ev.some_ (no (by unfold SetOk; omega))) (fun b2 => Ev.dc (fun h => Ev.some_ (no (by unfold SetOk; omega))) (fun b3 => Ev.st (fun k => by rw [measure_Check.l2]) (Ev.dn (by simp) (Ev.some_ (errS_yes (by unfold SetOk; omega)).symm))))
theorem ref_Settings_ev (b : api_Settings) : Ev (fun k => regletref08_Settings.f k b) (isTrue (SetOk b)) := by
 have no : ¬ SetOk b → false = isTrue (SetOk b) := fun h => (isTrue_no h).symm
 refine Ev.dc (fun h => Ev.some_ (no (by unfold SetOk; omega))) (fun a0 => ?_)
 refine Ev.dc (fun h => Ev.some_ (no (by unfold SetOk; omega))) (fun a1 => ?_)
 refine Ev.dc (fun h => Ev.some_ (no (by unfold SetOk; omega))) (fun a2 => ?_)
 refine Ev.dc (fun h => Ev.some_ (no (by unfold SetOk; omega))) (fun a3 => ?_)
 refine Ev.st (fun k => by rw [regletref08_Settings.j0]) ?_
 refine Ev.st (fun k => by rw [regletref08_Settings.l1]) (Ev.dp (by simp) (Ev.ifp (by simp) (Ev.ix rfl ?_)))
 refine Ev.dc (fun h => Ev.some_ (no (by unfold SetOk; omega))) (fun a4 => Ev.ifp (by simp) (Ev.ix rfl ?_))
 refine Ev.dc (fun h => Ev.some_ (no (by unfold SetOk; omega))) (fun a5 => Ev.st (fun k => by rw [regletref08_Settings.j2]) ?_)
 rw [w01]
 refine Ev.st (fun k => by rw [regletref08_Settings.l1]) (Ev.dp (by simp) (Ev.ifp (by simp) (Ev.ix rfl ?_)))
 refine Ev.dc (fun h => Ev.some_ (no (by unfold SetOk; omega))) (fun a6 => Ev.ifp (by simp) (Ev.ix rfl ?_))
 refine Ev.dc (fun h => Ev.some_ (no (by unfold SetOk; omega))) (fun a7 => Ev.st (fun k => by rw [regletref08_Settings.j2]) ?_)
 rw [w12]
 refine Ev.st (fun k => by rw [regletref08_Settings.l1]) (Ev.dp (by simp) (Ev.ifp (by simp) (Ev.ix rfl ?_)))
 refine Ev.dc (fun h => Ev.some_ (no (by unfold SetOk; omega))) (fun a8 => Ev.ifp (by simp) (Ev.ix rfl ?_))
 refine Ev.dc (fun h => Ev.some_ (no (by unfold SetOk; omega))) (fun a9 => Ev.st (fun k => by rw [regletref08_Settings.j2]) ?_)
 rw [w23]
 refine Ev.st (fun k => by rw [regletref08_Settings.l1]) (Ev.dn (by simp) ?_)
 refine Ev.dc (fun b0 => ?_) (fun h => Ev.some_ (no (by unfold SetOk; omega)))
 refine Ev.dc (fun b1 => ?_) (fun h => Ev.some_ (no (by unfold SetOk; omega)))
 refine Ev.dc (fun b2 => ?_) (fun h => Ev.some_ (no (by unfold SetOk; omega)))
 refine Ev.some_ ?_
 by_cases c : b.2.2.2.2.2.2 ≤ 100
 · rw [decide_eq_true c]; exact (isTrue_yes (by unfold SetOk; omega)).symm
 · rw [decide_eq_false c]; exact no (by unfold SetOk; omega)
def HgtOk (h : Int) : Prop := 1 ≤ h ∧ h ≤ 1073741824
open Classical in
noncomputable def errC (h : Int) (p : Prop) : Int := if HgtOk h then errS p else 41
theorem errC_yes {h : Int} {p : Prop} (c : HgtOk h) : errC h p = errS p := by unfold errC; exact if_pos c
theorem errC_no {h : Int} {p : Prop} (c : ¬ HgtOk h) : errC h p = 41 := by unfold errC; exact if_neg c
theorem pages_Check_ev (h : Int) (b : api_Settings) : Ev (fun k => pages_Check.f k h b) (errC h (SetOk b)) := by
 refine Ev.dc (fun c => Ev.some_ (errC_no (by unfold HgtOk; omega)).symm) (fun c1 => Ev.dc (fun c => Ev.some_ (errC_no (by unfold HgtOk; omega)).symm) (fun c2 => ?_))
 rw [errC_yes (by unfold HgtOk; omega)]
 exact Ev.st (fun k => by rw [pages_Check.j0]) (Ev.bind (measure_Check_ev b) (Ev.now _))
theorem ref_Check_ev (h : Int) (b : api_Settings) : Ev (fun k => regletref12_Check.f k h b) (isTrue (HgtOk h ∧ SetOk b)) := by
 refine Ev.dc (fun c1 => Ev.dc (fun c2 => ?_) (fun c => Ev.some_ (isTrue_no (by unfold HgtOk; omega)).symm)) (fun c => Ev.some_ (isTrue_no (by unfold HgtOk; omega)).symm)
 refine Ev.bind (ref_Settings_ev b) (Ev.some_ ?_)
 by_cases c : SetOk b
 · rw [isTrue_yes c, isTrue_yes ⟨⟨c1, c2⟩, c⟩]
 · rw [isTrue_no c, isTrue_no (fun h => c h.2)]
theorem errC_ok {h : Int} {p : Prop} (c : HgtOk h ∧ p) : errC h p = 0 := by rw [errC_yes c.1, errS_yes c.2]
theorem errC_bad {h : Int} {p : Prop} (c : ¬ (HgtOk h ∧ p)) : errC h p ≠ 0 := by
 by_cases d : HgtOk h
 · rw [errC_yes d, errS_no (fun e => c ⟨d, e⟩)]; omega
 · rw [errC_no d]; omega
theorem pages_Paginate_no (l : List api_Slot) {h : Int} {b : api_Settings} (c : ¬ (HgtOk h ∧ SetOk b)) : Ev (fun k => pages_Paginate.f k l h b) ([], errC h (SetOk b)) :=
 Ev.bind (pages_Check_ev h b) (Ev.xp (errC_bad c) (Ev.now _))
theorem pages_Paginate_wrong {l : List api_Slot} (hw : Wf l) {h : Int} {b : api_Settings} (c : HgtOk h ∧ SetOk b) (hr : ¬ RightL l) : Ev (fun k => pages_Paginate.f k l h b) ([], 1) := by
 refine Ev.bind (pages_Check_ev h b) (Ev.xn (errC_ok c) (Ev.bind (pages_Right_ev hw) (Ev.xp ?_ (Ev.some_ ?_))))
 · rw [errOf_no hr]; omega
 · rw [errOf_no hr]
theorem pages_Paginate_yes {l : List api_Slot} (hw : Wf l) (hf : Few l) {h : Int} {b : api_Settings} (c : HgtOk h ∧ SetOk b) (hr : RightL l) :
 ∃ s, Chain l b h 0 s ∧ Ev (fun k => pages_Paginate.f k l h b) (s, 0) ∧ Ev (fun k => regletref12_Paginate.f k l h b) s := by
 obtain ⟨s, hs, he⟩ := chain_ev hw hf hr h b l.length 0 (by omega) (by omega)
 obtain ⟨e1, e2⟩ := he [] (by simp)
 exact ⟨s, hs, Ev.bind (pages_Check_ev h b) (Ev.xn (errC_ok c) (Ev.bind (pages_Right_ev hw) (Ev.xn (errOf_yes hr) e1))), e2⟩
theorem same_loop (l m : List Int) (hl : (l.length : Int) ≤ 4611686018427387904) (h : l.length = m.length) : ∀ (d : Nat) (i : Int), 0 ≤ i → i + d = l.length → (∀ j, 0 ≤ j → j < i → rd l j = rd m j) →
 Ev (fun k => regletref12_Same.l0 k l m i) (isTrue (l = m)) := by
 intro d
 induction d with
 | zero =>
  intro i h0 hi hj
  exact Ev.st (fun k => by rw [regletref12_Same.l0]) (Ev.dn (by omega) (Ev.some_ (isTrue_yes (rd_ext h fun j a b => hj j a (by omega))).symm))
 | succ d ih =>
  intro i h0 hi hj
  refine Ev.st (fun k => by rw [regletref12_Same.l0]) (Ev.dp (by omega) ?_)
  refine Ev.at_ h0 (by omega) ?_
  refine Ev.at_ h0 (by omega) ?_
  refine Ev.xc (fun e => Ev.some_ (isTrue_no (fun q => e (by rw [q]))).symm) (fun e => ?_)
  rw [w64 (x := i + 1) (by omega) (by omega)]
  refine ih (i + 1) (by omega) (by omega) (fun j a b => ?_)
  by_cases c : j = i
  · subst c; exact e
  · exact hj j a (by omega)
theorem same_ev (l m : List Int) (hl : (l.length : Int) ≤ 4611686018427387904) : Ev (fun k => regletref12_Same.f k l m) (isTrue (l = m)) :=
 Ev.xc (fun h => Ev.some_ (isTrue_no (fun e => h (by rw [e]))).symm) (fun h => same_loop l m hl (by omega) l.length 0 (by omega) (by omega) (fun j a b => by omega))
theorem few_of {l : List api_Slot} (h : (l.length : Int) ≤ 1000) : Few l := by unfold Few; omega
theorem wf_of {l : List api_Slot} (h : okT y21 l) : Wf l := by
 refine ⟨by have := h.1; omega, fun i a b => ?_⟩
 obtain ⟨x, y, z, _⟩ := h.2 _ (rd_mem a b)
 exact ⟨lit64 x, lit64 y, lit64 z⟩
end Go.Proofs.Ytnlocbjojbgdcaa.Vm
