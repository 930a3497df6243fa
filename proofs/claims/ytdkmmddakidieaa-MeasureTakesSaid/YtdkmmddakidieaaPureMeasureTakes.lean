/- Any items are taken, or refused; each is told as it is, and those at which a line may end. -/
import Derived.Test.YtdkmmddakidieaaPx32
import Derived.Test.YtdkmmddakidieaaPx34
import Derived.Test.YtdkmmddakidieaaPx35
import Derived.Test.YtdkmmddakidieaaPx36
import Derived.Test.YtdkmmddakidieaaAw
import Derived.Test.YtdkmmddakidieaaIt3
namespace Go.Proofs.Ytdkmmddakidieaa.Pure
open Go.RowKit Go.Proofs.YtdkmmddakidieaaW.PrintWords Go.Proofs.YtdkmmddakidieaaW.PrintLast Go.Proofs.YtdkmmddakidieaaW.PrintMore
open Go.Proofs.Ytdkmmddakidieaa.P
theorem lgs_len (l : List S34) (i : Nat) : (lgs l i).length ≤ i := by
  unfold lgs; rw [List.length_map]
  have := List.length_filter_le (fun j : Nat => legB l (j : Int)) (List.range i)
  rwa [List.length_range] at this
theorem refLegal_l0 (l : List S34) (hl : l.length ≤ 262144) : ∀ m i : Nat, i + m = l.length → Ev (fun k => regletref08_Legal.l0 k l (lgs l i) (i : Int)) (lgs l l.length)
 | 0, i, e => by
  obtain rfl : i = l.length := by omega
  exact regletref08_Legal.l0.ev (Ev.ifn (by omega) (Ev.some_ rfl))
 | m + 1, i, e => by
  have go := refLegal_l0 l hl m (i + 1) (by omega)
  have hg := lgs_len l i
  refine regletref08_Legal.l0.ev (Ev.ifp (by omega) (Ev.bind (rLegal_ev l (by omega) i) ?_))
  rw [lgs_succ] at go
  rw [nx i (by omega)]
  refine Ev.ifc (fun h => Ev.ifp (by omega) ?_) (fun h => ?_)
  · rw [if_pos h] at go; exact go
  · rw [if_neg h] at go; exact go
theorem refLegal_ev (l : List S34) (hl : l.length ≤ 262144) : Ev (fun k => regletref08_Legal.f k l) (lgs l l.length) := by
  have := refLegal_l0 l hl l.length 0 (by omega)
  exact this
theorem takes_l0 (l : List S34) (a : Int) (W M L F s G : List Int) (sg : Int) (hl : l.length ≤ 262144) (hG : G.length ≤ l.length) : ∀ (m i : Nat) (X : List Int), i + m = G.length → X.length = G.length → (∀ j : Nat, i ≤ j → j < G.length → rd X (j : Int) = rd G (j : Int)) →
    Ev (fun k => regletlaw08_MeasureTakes.l0 k l a X G (i : Int) l W M L F s sg G) true
 | 0, i, X, e, hX, h => by
  refine regletlaw08_MeasureTakes.l0.ev (Ev.ifn (by omega) ?_)
  by_cases h0 : a < 0
  · refine Ev.bind (Ev.opt (r := (0, 0, 0, 0, false, 0, false, 0, 0)) (by unfold measure_Para_Item.f; rw [if_pos h0])) (Ev.ifp h0 (regletlaw08_MeasureTakes.j3.ev (Ev.ifp rfl (Ev.ifp rfl (Ev.ifp h0 (Ev.some_ rfl))))))
  · by_cases h1 : a ≥ (l.length : Int)
    · refine Ev.bind (Ev.opt (r := (0, 0, 0, 0, false, 0, false, 0, 0)) (by unfold measure_Para_Item.f; rw [if_neg h0, if_pos h1])) (Ev.ifn h0 ?_)
      rw [decide_eq_true h1]
      refine regletlaw08_MeasureTakes.j3.ev (Ev.ifp rfl (Ev.ifp rfl (Ev.ifn h0 (Ev.ifc (fun _ => Ev.some_ rfl) (fun h2 => Ev.bind (Ev.opt (r := -1) (by unfold measure_Para_End.f; rw [if_neg h0, if_pos (by omega)])) (Ev.some_ rfl))))))
    · refine Ev.bind (Ev.opt (r := ((rd_T34 l a).f0, (rd_T34 l a).f1, (rd_T34 l a).f2, (rd_T34 l a).f3, (rd_T34 l a).f4, (rd_T34 l a).f5, (rd_T34 l a).f6, (rd_T34 l a).f7, (rd_T34 l a).f8)) (by unfold measure_Para_Item.f; rw [if_neg h0, if_neg h1, if_pos (by omega), if_pos (by omega)])) (Ev.ifn h0 ?_)
      rw [decide_eq_false h1]
      refine regletlaw08_MeasureTakes.j3.ev (Ev.ifn (by simp) (Ev.ifp (by omega) (Ev.ifp (by omega) (Ev.ifp (by simp) (Ev.ifc (fun _ => Ev.some_ rfl) (fun h2 => Ev.bind (Ev.opt (r := rd G 0) (by unfold measure_Para_End.f; rw [if_neg (by omega), if_neg (by omega), if_pos (by omega), if_pos (by omega)])) (Ev.ifp (by omega) (Ev.some_ (by simp)))))))))
 | m + 1, i, X, e, hX, h => by
  refine regletlaw08_MeasureTakes.l0.ev (Ev.ifp (by omega) (Ev.ifp (by omega) (Ev.ifp (by omega) (Ev.ifp (h i (Nat.le_refl _) (by omega)) (Ev.bind (Ev.opt (r := rd G (i : Int)) (by unfold measure_Para_End.f; rw [if_neg (by omega), if_neg (by omega), if_pos (by omega), if_pos (by omega)])) (Ev.ifp rfl ?_))))))
  rw [nx i (by omega)]
  refine takes_l0 l a W M L F s G sg hl hG m (i + 1) _ (by omega) (by rw [List.length_set]; exact hX) (fun j h1 h2 => ?_)
  rw [Int.toNat_natCast, rd_set_ne (by omega)]
  exact h j (by omega) h2
theorem MeasureTakes : ∀ (l0 : List (S34)) (a1 : Int), (OkList 72 ok34) l0 → (fun n => (Lit.int .i64 n).wf = true) a1 → ∃ k, regletlaw08_MeasureTakes.f k l0 a1 = some true := by
  intro l a _ _
  refine Ev.rounds (Ev.bind awake_ev (Ev.ifp rfl ?_))
  cases h : rightB l with
  | false =>
    refine Ev.bind (New_no h) (Ev.ifn (by decide) (Ev.bind (Ev.lift (rRight_ev l) h) (Ev.ifn (by decide) (Ev.some_ rfl))))
  | true =>
    obtain ⟨s, hs, hN⟩ := New_yes h
    obtain ⟨⟨p, q, r⟩, t⟩ := rightB_of h
    refine Ev.bind hN (Ev.ifp rfl (Ev.bind (Ev.lift (rRight_ev l) h) (Ev.ifp rfl (Ev.ifp rfl (Ev.bind (Ev.opt (r := (l.length : Int)) rfl) ?_)))))
    have hg := lgs_len l l.length
    refine regletlaw08_MeasureTakes.j0.ev (Ev.ifn (by simp) (Ev.bind (Ev.opt (r := lgs l l.length) (by unfold measure_Para_Legal.f; show (if ([] : List Int).length + _ < _ then _ else _) = _; rw [if_pos (by simp; omega)]; rfl)) (Ev.bind (refLegal_ev l q) (Ev.ifp rfl (Ev.bind (Ev.opt (r := ((lgs l l.length).length : Int)) rfl) ?_)))))
    refine regletlaw08_MeasureTakes.j1.ev (Ev.ifn (by simp) ?_)
    exact takes_l0 l a _ _ _ _ s (lgs l l.length) _ q hg (lgs l l.length).length 0 _ (by omega) rfl (fun _ _ _ => rfl)
end Go.Proofs.Ytdkmmddakidieaa.Pure
