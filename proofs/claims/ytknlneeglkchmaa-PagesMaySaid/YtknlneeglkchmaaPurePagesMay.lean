/- Behind which lines a page may end, and which parts stay together, is what the reference says. -/
import Derived.Test.YtknlneeglkchmaaPx12
import Derived.Test.YtknlneeglkchmaaPx13
import Derived.Test.YtknlneeglkchmaaPg3
namespace Go.Proofs.Ytknlneeglkchmaa.Pure
open Go.RowKit Go.Proofs.YtknlneeglkchmaaW.PrintWords Go.Proofs.YtknlneeglkchmaaW.PrintLast
open Go.Proofs.Ytknlneeglkchmaa.P
/-- the lines with which parts begin, from line i on -/
noncomputable def parts (l : List S42) (o w : Int) : Nat → Int → List Int
  | 0, _ => []
  | d + 1, i => (if isTrue (i = 0 ∨ CutL l o w i) = true then [i] else []) ++ parts l o w d (i + 1)
theorem parts_succ (l : List S42) (o w : Int) (d : Nat) (i : Int) : parts l o w (d + 1) i = (if isTrue (i = 0 ∨ CutL l o w i) = true then [i] else []) ++ parts l o w d (i + 1) := rfl
theorem PagesMay : ∀ (l0 : List (S42)) (a1 : S24), (OkList 32 ok42) l0 → ok24 a1 → ∃ k, regletlaw12_PagesMay.f k l0 a1.f0 a1.f1 a1.f2 a1.f3 a1.f4 a1.f5 a1.f6 = some true := by
  intro l s hl _
  have hw := wf_of hl
  have skip : ∀ b, b = true → Ev (fun k => regletlaw12_PagesMay.j0 k l b s.f0 s.f1 s.f2 s.f3 s.f4 s.f5 s.f6) true := fun b hb => regletlaw12_PagesMay.j0.ev (Ev.ifp hb (Ev.now _))
  refine Ev.rounds (Ev.bind awake_ev (Ev.ifp rfl (Ev.ifc (fun _ => skip _ rfl) (fun c => Ev.bind (ref_Right_ev hw) (Ev.ifc (fun d => ?_) (fun _ => skip _ rfl))))))
  have hr := isTrue_iff.1 d
  have hf : Few l := few_of (by omega)
  have cut : ∀ i : Int, 0 < i → i < l.length → (CutL l s.f5 s.f6 i ↔ mayB (rd_T42 l (i - 1)) s.f5 s.f6 = true) := by
    intro i h0 hi
    constructor
    · rintro (h | ⟨_, _, h⟩)
      · omega
      · exact h
    · exact fun h => .inr ⟨h0, hi, h⟩
  have main : Ev (fun k => regletlaw12_PagesMay.l0 k l ([] : List Int) 0 s.f0 s.f1 s.f2 s.f3 s.f4 s.f5 s.f6) true := by
    have units : ∀ (d : Nat) (i : Int) (acc : List Int), 0 ≤ i → i + d = l.length → (acc.length : Int) ≤ i → Ev (fun k => pages_Units.l0 k l acc (l.length : Int) i s.f0 s.f1 s.f2 s.f3 s.f4 s.f5 s.f6) (acc ++ parts l s.f5 s.f6 d i) := by
      intro d
      induction d with
      | zero => intro i acc h0 hi ha; exact pages_Units.l0.ev (Ev.ifn (by omega) (Ev.some_ (by simp [parts])))
      | succ d ih =>
        intro i acc h0 hi ha
        have yes : isTrue (i = 0 ∨ CutL l s.f5 s.f6 i) = true → Ev (fun k => if acc.length < 17592186044416 then pages_Units.l0 k l (acc ++ [i]) (l.length : Int) (wrap64 (i + 1)) s.f0 s.f1 s.f2 s.f3 s.f4 s.f5 s.f6 else none) (acc ++ parts l s.f5 s.f6 (d + 1) i) := by
          intro hy
          refine Ev.ifp (by omega) ?_
          rw [w64 (x := i + 1) (by omega) (by omega)]
          have := ih (i + 1) (acc ++ [i]) (by omega) (by omega) (by simp only [List.length_append, List.length_singleton]; omega)
          rw [List.append_assoc] at this
          unfold parts
          rw [if_pos hy]
          exact this
        refine pages_Units.l0.ev (Ev.ifp (by omega) (Ev.ifc (fun q => yes (isTrue_yes (.inl q))) (fun q => ?_)))
        rw [w64 (x := i - 1) (by omega) (by omega)]
        refine Ev.ifp (by omega) (Ev.ifp (by omega) (Ev.bind (Ev.opt (pages_May_eq (right_small hw hr (i - 1) (by omega) (by omega)) _ _ _ _ _ _ _)) (Ev.ifc (fun m => ?_) (fun m => ?_))))
        · exact yes (isTrue_yes (.inr ((cut i (by omega) (by omega)).2 m)))
        · rw [w64 (x := i + 1) (by omega) (by omega)]
          have := ih (i + 1) acc (by omega) (by omega) (by omega)
          unfold parts
          rw [if_neg (by rw [isTrue_no]; simp; rintro (h | h); exact q h; exact m ((cut i (by omega) (by omega)).1 h))]
          exact this
    have uall := units l.length 0 [] (by omega) (by omega) (by simp)
    have loop : ∀ (d : Nat) (i : Int) (acc : List Int), 0 ≤ i → i + d = l.length → (acc.length : Int) ≤ i → acc ++ parts l s.f5 s.f6 d i = parts l s.f5 s.f6 l.length 0 → Ev (fun k => regletlaw12_PagesMay.l0 k l acc i s.f0 s.f1 s.f2 s.f3 s.f4 s.f5 s.f6) true := by
      intro d
      induction d with
      | zero =>
        intro i acc h0 hi ha he
        refine regletlaw12_PagesMay.l0.ev (Ev.ifn (by omega) (Ev.bind uall (Ev.bind (same_ev _ acc ?_) (Ev.some_ (isTrue_yes ?_)))))
        · rw [List.nil_append, ← he]; simp [parts]; omega
        · rw [List.nil_append, ← he]; simp [parts]
      | succ d ih =>
        intro i acc h0 hi ha he
        rw [parts_succ] at he
        have sm := right_small hw hr i (by omega) (by omega)
        refine regletlaw12_PagesMay.l0.ev (Ev.ifp (by omega) (Ev.ifp h0 (Ev.bind (Ev.opt (pages_May_eq sm _ _ _ _ _ _ _)) (Ev.bind (Ev.opt (ref_May_eq sm _ _ _ _ _ _ _)) (Ev.ifn (by simp) ?_)))))
        rw [w64 (x := i + 1) (by omega) (by omega)]
        have yes : isTrue (i = 0 ∨ CutL l s.f5 s.f6 i) = true → Ev (fun k => if acc.length < 17592186044416 then regletlaw12_PagesMay.l0 k l (acc ++ [i]) (i + 1) s.f0 s.f1 s.f2 s.f3 s.f4 s.f5 s.f6 else none) true := by
          intro hy
          rw [if_pos hy, ← List.append_assoc] at he
          exact Ev.ifp (by omega) (ih (i + 1) (acc ++ [i]) (by omega) (by omega) (by simp only [List.length_append, List.length_singleton]; omega) he)
        refine Ev.ifc (fun q => yes (isTrue_yes (.inl q))) (fun q => Ev.bind (Ev.opt (ref_Cut_eq hw hr (by omega) (by omega) _ _ _ _ _ _ _)) (Ev.ifc (fun m => yes (isTrue_yes (.inr (isTrue_iff.1 m)))) (fun m => ?_)))
        rw [if_neg (by rw [isTrue_no]; simp; rintro (h | h); exact q h; exact m (isTrue_yes h)), List.nil_append] at he
        exact ih (i + 1) acc (by omega) (by omega) (by omega) he
    exact loop l.length 0 [] (by omega) (by omega) (by simp) rfl
  have j0 : ∀ b, Ev (fun k => regletlaw12_PagesMay.j0 k l b s.f0 s.f1 s.f2 s.f3 s.f4 s.f5 s.f6) true := fun b => regletlaw12_PagesMay.j0.ev (Ev.ifc (fun _ => Ev.now _) (fun _ => main))
  exact Ev.ifc (fun _ => j0 _) (fun _ => j0 _)
end Go.Proofs.Ytknlneeglkchmaa.Pure
