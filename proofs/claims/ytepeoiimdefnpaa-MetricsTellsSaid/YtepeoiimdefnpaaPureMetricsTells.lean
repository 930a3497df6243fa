/- Each style is told as it was given, and there are no others; what is told is the asker's. -/
import Derived.Test.YtepeoiimdefnpaaMs
namespace Go.Proofs.Ytepeoiimdefnpaa.Vm
open Go
open _root_.Go.RowKit (wrap64)
theorem Style_ev (l : List Styl) (hl : FewS l) (n : Int) : Ev (fun k => metrics_Table_Style.f k l n) (ofS l n) := by
  have C := TCheck_ev l n
  unfold ofS
  by_cases h : 0 ≤ n ∧ n < l.length
  · rw [if_pos h] at C ⊢
    refine Ev.congr (fun k => by rw [metrics_Table_Style.f]) (Ev.bind C (Ev.xn rfl ?_))
    refine Ev.at_ h.1 h.2 ?_
    have := hl.2 _ (rd_mem h.1 h.2)
    exact Ev.ifp (by simp only [List.length_nil]; omega) (Ev.now _)
  · rw [if_neg h] at C ⊢
    refine Ev.congr (fun k => by rw [metrics_Table_Style.f]) ?_
    refine Ev.bind C ?_
    exact Ev.xp (by decide) (Ev.now _)
theorem Pure.MetricsTells (l : List Styl) (n : Int) (_ : okT (.row false tSty04) l) (_ : okT (.i .i64) n) : ∃ k, regletlaw04_MetricsTells.f k l n = some true := by
  refine Ev.rounds (Ev.congr (fun k => by rw [regletlaw04_MetricsTells.f]) (Ev.bind awake04s_ev (Ev.bn rfl (Ev.bind (table04_ev l) ?_))))
  by_cases hc : (chkL l).1 = 0
  · rw [if_pos hc]
    refine Ev.somep rfl ?_
    have hf := few_of hc
    have hs : (ofS l n).2.2.2.2.2.2.1.length ≤ 64 := by
      unfold ofS
      split
      · rename_i h; exact hf.2 _ (rd_mem h.1 h.2)
      · exact Nat.zero_le _
    have f1 : FewS [ofS l n] := ⟨by simp, fun s hs' => by simp at hs'; subst hs'; exact hs⟩
    have same : Ev (fun k => regletref04_Same.f k [ofS l n] [ofS l n]) true := Ev.lift (refSame04_ev _ _ f1) (isTrue_yes rfl)
    have over : ∀ d i : Nat, ∀ g : Styl, i + d = g.2.2.2.2.2.2.1.length → g.2.2.2.2.2.2.1.length ≤ 64 → Ev (fun k => regletlaw04_MetricsTells.l2 k n l (i : Int) (ofS l n) g) true := by
      intro d
      induction d with
      | zero =>
        intro i g e _
        refine Ev.st (fun k => by rw [regletlaw04_MetricsTells.l2]) (Ev.dn (by omega) ?_)
        exact Ev.bind (Style_ev l hf n) (Ev.bind same (Ev.now _))
      | succ d ih =>
        intro i g e hg
        refine Ev.st (fun k => by rw [regletlaw04_MetricsTells.l2]) (Ev.dp (by omega) ?_)
        refine Ev.gx (by omega) (by omega) ?_
        rw [nx i (by omega), Int.toNat_natCast]
        exact ih (i + 1) _ (by dsimp only; rw [List.length_set]; omega) (by dsimp only; rw [List.length_set]; exact hg)
    have rest : Ev (fun k => regletlaw04_MetricsTells.j0 k n l (ofS l n).2.1 (ofS l n).2.2.1 (ofS l n).2.2.2.1 (ofS l n)) true := by
      refine Ev.st (fun k => by rw [regletlaw04_MetricsTells.j0]) ?_
      refine Ev.xn rfl (Ev.xn rfl (Ev.xn rfl ?_))
      refine Ev.bind (Ev.congr (fun k => by rw [metrics_Table_Height.f]) (Ev.bind (sof_ev l n) (Ev.now _))) (Ev.xn rfl ?_)
      refine Ev.bind (Ev.congr (fun k => by rw [metrics_Table_Hyphen.f]) (Ev.bind (sof_ev l n) (Ev.now _))) (Ev.xn rfl ?_)
      refine Ev.bind (Ev.congr (fun k => by rw [metrics_Table_Keep.f]) (Ev.bind (sof_ev l n) (Ev.now _))) (Ev.xn rfl ?_)
      refine Ev.st (fun k => by rw [regletlaw04_MetricsTells.j1]) ?_
      refine Ev.bind (Style_ev l hf n) (Ev.bind same (Ev.ifn (by simp) ?_))
      exact over _ 0 _ (Nat.zero_add _) hs
    refine Ev.bind (refOf_ev l n) ?_
    refine Ev.bind (Ev.congr (fun k => by rw [metrics_Table_Space.f]) (Ev.bind (sof_ev l n) (Ev.now _))) ?_
    have C := TCheck_ev l n
    refine Ev.bind C (Ev.dc (fun h0 => ?_) fun h0 => ?_)
    · refine Ev.xn ?_ (Ev.bind C (Ev.dn (by omega) (Ev.xn ?_ rest)))
      · by_cases h : 0 ≤ n ∧ n < l.length
        · rw [if_pos h, decide_eq_true h.2]; rfl
        · rw [if_neg h, decide_eq_false (show ¬ n < (l.length : Int) by omega)]; rfl
      · by_cases h : 0 ≤ n ∧ n < l.length
        · rw [if_pos h, decide_eq_false (show ¬ (l.length : Int) ≤ n by omega)]; rfl
        · rw [if_neg h, decide_eq_true (show (l.length : Int) ≤ n by omega)]; rfl
    · rw [if_neg (show ¬ (0 ≤ n ∧ n < (l.length : Int)) by omega)] at C ⊢
      exact Ev.xn rfl (Ev.bind C (Ev.dp (by omega) (Ev.xn rfl rest)))
  · rw [if_neg hc]
    exact Ev.nilp rfl (Ev.now _)
end Go.Proofs.Ytepeoiimdefnpaa.Vm
