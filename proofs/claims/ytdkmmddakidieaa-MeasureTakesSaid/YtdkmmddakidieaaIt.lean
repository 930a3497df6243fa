/- Items: when they may be a paragraph's, and where a line may end: what the printed functions of the program and of the reference come to. -/
import Derived.Test.YtdkmmddakidieaaPx24
import Derived.Test.YtdkmmddakidieaaPx25
import Derived.Test.YtdkmmddakidieaaPx30
import Derived.Test.YtdkmmddakidieaaEvKit
import Derived.Test.YtdkmmddakidieaaOpened
namespace Go.Proofs.Ytdkmmddakidieaa.P
open Go.RowKit Go.Proofs.YtdkmmddakidieaaW.PrintWords Go.Proofs.YtdkmmddakidieaaW.PrintLast
theorem rdT_nat (l : List S34) (i : Nat) : rd_T34 l (i : Int) = l.getD i z34 := by simp [rd_T34]
/-- may an item be? (by what a line does with it) -/
def OkI (x : S34) : Prop := (0 ≤ x.f1 ∧ x.f1 ≤ 68719476736) ∧ (0 ≤ x.f2 ∧ x.f2 ≤ 68719476736) ∧ (0 ≤ x.f3 ∧ x.f3 ≤ 68719476736) ∧ x.f3 ≤ x.f1 ∧
  ((x.f0 = 1 ∧ x.f2 = 0 ∧ x.f3 = 0 ∧ x.f4 = false ∧ x.f5 = 0 ∧ x.f6 = false) ∨ (x.f0 = 2 ∧ x.f5 = 0 ∧ x.f6 = false ∧ (x.f4 = true → x.f1 = 0 ∧ x.f2 = 0)) ∨ (x.f0 = 3 ∧ x.f2 = 0 ∧ x.f3 = 0 ∧ x.f4 = false ∧ -10000 ≤ x.f5 ∧ x.f5 ≤ 10000))
open Classical in
noncomputable def okB (x : S34) : Bool := if OkI x then true else false
theorem okB_yes {x : S34} (h : OkI x) : okB x = true := by unfold okB; exact if_pos h
theorem okB_no {x : S34} (h : ¬ OkI x) : okB x = false := by unfold okB; exact if_neg h
theorem okB_iff {x : S34} : okB x = true ↔ OkI x := by
  by_cases h : OkI x
  · exact ⟨fun _ => h, fun _ => okB_yes h⟩
  · exact ⟨(fun e => by rw [okB_no h] at e; cases e), fun q => absurd q h⟩
theorem msr_eq (n : Int) : items_measure.f n = some (decide (0 ≤ n ∧ n ≤ 68719476736)) := by
  unfold items_measure.f
  by_cases h : n ≥ 0
  · rw [if_pos h]
    by_cases q : n ≤ 68719476736
    · rw [decide_eq_true q, decide_eq_true ⟨h, q⟩]
    · rw [decide_eq_false q, decide_eq_false (fun z => q z.2)]
  · rw [if_neg h, decide_eq_false (fun z => h z.1)]
theorem fits_ev (x : S34) : Ev (fun k => items_fits.f k x.f0 x.f1 x.f2 x.f3 x.f4 x.f5 x.f6 x.f7 x.f8) (okB x) := by
  have j0 : ∀ b, (b = true ↔ ¬ ((0 ≤ x.f1 ∧ x.f1 ≤ 68719476736) ∧ (0 ≤ x.f2 ∧ x.f2 ≤ 68719476736) ∧ (0 ≤ x.f3 ∧ x.f3 ≤ 68719476736) ∧ x.f3 ≤ x.f1)) → Ev (fun k => items_fits.j0 k b x.f0 x.f1 x.f2 x.f3 x.f4 x.f5 x.f6 x.f7 x.f8) (okB x) := by
    intro b hb
    have no : ¬ OkI x → Ev (fun _ => some false) (okB x) := fun h => Ev.some_ (okB_no h).symm
    refine items_fits.j0.ev (Ev.ifc (fun h => no (fun q => hb.1 h ⟨q.1, q.2.1, q.2.2.1, q.2.2.2.1⟩)) (fun h => ?_))
    obtain ⟨a, b, c, d⟩ := Decidable.not_not.1 (fun q => h (hb.2 q))
    refine Ev.ifc (fun k1 => ?_) (fun k1 => Ev.ifc (fun k2 => ?_) (fun k2 => Ev.ifc (fun k3 => ?_) (fun k3 => no (fun q => by rcases q.2.2.2.2 with z | z | z <;> omega))))
    · refine Ev.ifc (fun e2 => Ev.ifc (fun e3 => Ev.ifc (fun e5 => Ev.ifc (fun e4 => ?_) (fun e4 => ?_)) (fun e5 => ?_)) (fun e3 => ?_)) (fun e2 => ?_)
      · exact no (fun q => by rcases q.2.2.2.2 with z | z | z <;> simp_all <;> omega)
      · cases hf : x.f6 with
        | true => exact no (fun q => by rcases q.2.2.2.2 with z | z | z <;> simp_all <;> omega)
        | false => exact Ev.some_ (okB_yes ⟨a, b, c, d, .inl ⟨k1, e2, e3, by simpa using e4, e5, hf⟩⟩).symm
      all_goals exact no (fun q => by rcases q.2.2.2.2 with z | z | z <;> omega)
    · refine Ev.ifc (fun e5 => Ev.ifc (fun e6 => ?_) (fun e6 => Ev.ifc (fun e4 => Ev.ifc (fun e1 => ?_) (fun e1 => ?_)) (fun e4 => ?_))) (fun e5 => ?_)
      · exact no (fun q => by rcases q.2.2.2.2 with z | z | z <;> simp_all <;> omega)
      · by_cases e2 : x.f2 = 0
        · exact Ev.some_ (by rw [okB_yes ⟨a, b, c, d, .inr (.inl ⟨k2, e5, by simpa using e6, fun _ => ⟨e1, e2⟩⟩)⟩]; simpa using e2)
        · exact Ev.some_ (by rw [okB_no (fun q => by rcases q.2.2.2.2 with z | z | z; omega; exact e2 (z.2.2.2 e4).2; omega)]; simpa using e2)
      · exact no (fun q => by rcases q.2.2.2.2 with z | z | z; omega; exact e1 (z.2.2.2 e4).1; omega)
      · exact Ev.some_ (okB_yes ⟨a, b, c, d, .inr (.inl ⟨k2, e5, by simpa using e6, fun z => absurd z e4⟩)⟩).symm
      · exact no (fun q => by rcases q.2.2.2.2 with z | z | z <;> omega)
    · refine Ev.ifc (fun e2 => Ev.ifc (fun e3 => Ev.ifc (fun e4 => ?_) (fun e4 => Ev.ifc (fun e5 => ?_) (fun e5 => ?_))) (fun e3 => ?_)) (fun e2 => ?_)
      · exact no (fun q => by rcases q.2.2.2.2 with z | z | z <;> simp_all <;> omega)
      · by_cases e6 : x.f5 ≤ 10000
        · exact Ev.some_ (by rw [okB_yes ⟨a, b, c, d, .inr (.inr ⟨k3, e2, e3, by simpa using e4, e5, e6⟩)⟩, decide_eq_true e6])
        · exact Ev.some_ (by rw [okB_no (fun q => by rcases q.2.2.2.2 with z | z | z <;> omega), decide_eq_false e6])
      all_goals exact no (fun q => by rcases q.2.2.2.2 with z | z | z <;> omega)
  have nd : ∀ {n : Int}, ¬ decide (0 ≤ n ∧ n ≤ 68719476736) = true → ¬ (0 ≤ n ∧ n ≤ 68719476736) := fun h q => h (decide_eq_true q)
  refine Ev.bind (Ev.opt (msr_eq _)) (Ev.ifc (fun h1 => ?_) (fun h => j0 true (by simp only [true_iff]; exact fun q => nd h q.1)))
  refine Ev.bind (Ev.opt (msr_eq _)) (Ev.ifc (fun h2 => ?_) (fun h => j0 true (by simp only [true_iff]; exact fun q => nd h q.2.1)))
  refine Ev.bind (Ev.opt (msr_eq _)) (Ev.ifc (fun h3 => ?_) (fun h => j0 true (by simp only [true_iff]; exact fun q => nd h q.2.2.1)))
  refine j0 _ ?_
  rw [decide_eq_true_iff]
  constructor
  · intro h q; have := q.2.2.2; omega
  · intro h; exact Int.not_le.1 (fun q => h ⟨of_decide_eq_true h1, of_decide_eq_true h2, of_decide_eq_true h3, q⟩)
theorem one_ev (x : S34) : Ev (fun k => regletref07_one.f k x.f0 x.f1 x.f2 x.f3 x.f4 x.f5 x.f6 x.f7 x.f8) (okB x) := by
  have no : ¬ OkI x → Ev (fun _ => some false) (okB x) := fun h => Ev.some_ (okB_no h).symm
  have step : ∀ (i : Int) (y : Int), 0 ≤ i → i < 3 → rd [x.f1, x.f2, x.f3] i = y → (¬ (0 ≤ y ∧ y ≤ 68719476736) → ¬ OkI x) →
      (0 ≤ y ∧ y ≤ 68719476736 → Ev (fun k => regletref07_one.l0 k [x.f1, x.f2, x.f3] (i + 1) x.f0 x.f1 x.f2 x.f3 x.f4 x.f5 x.f6 x.f7 x.f8) (okB x)) →
      Ev (fun k => regletref07_one.l0 k [x.f1, x.f2, x.f3] i x.f0 x.f1 x.f2 x.f3 x.f4 x.f5 x.f6 x.f7 x.f8) (okB x) := by
    intro i y h0 h3 hy hn hk
    refine regletref07_one.l0.ev (Ev.ifp (by simpa using h3) (Ev.ifp h0 ?_))
    rw [hy, w64 (by omega) (by omega)]
    exact Ev.ifc (fun q => no (hn (by omega))) (fun q => Ev.ifc (fun q2 => no (hn (by omega))) (fun q2 => hk (by omega)))
  refine step 0 x.f1 (by omega) (by omega) rfl (fun h q => h q.1) (fun a => ?_)
  refine step 1 x.f2 (by omega) (by omega) rfl (fun h q => h q.2.1) (fun b => ?_)
  refine step 2 x.f3 (by omega) (by omega) rfl (fun h q => h q.2.2.1) (fun c => ?_)
  refine regletref07_one.l0.ev (Ev.ifn (by simp) (Ev.ifc (fun h => no (fun q => by have := q.2.2.2.1; omega)) (fun d => ?_)))
  have d : x.f3 ≤ x.f1 := by omega
  refine Ev.ifc (fun k1 => ?_) (fun k1 => Ev.ifc (fun k2 => ?_) (fun k2 => Ev.ifc (fun k3 => ?_) (fun k3 => no (fun q => by rcases q.2.2.2.2 with z | z | z <;> omega))))
  · by_cases e : x.f2 = 0 ∧ x.f3 = 0 ∧ x.f4 = false ∧ x.f5 = 0 ∧ x.f6 = false
    · exact Ev.some_ (by rw [okB_yes ⟨a, b, c, d, .inl ⟨k1, e⟩⟩]; simp [k1, e])
    · refine Ev.some_ ?_
      rw [okB_no (fun q => by rcases q.2.2.2.2 with z | z | z; exact e z.2; omega; omega)]
      simp only [Bool.and_eq_false_iff, beq_eq_false_iff_ne, ne_eq, Bool.not_eq_false']
      by_cases e2 : x.f2 = 0 <;> by_cases e3 : x.f3 = 0 <;> by_cases e5 : x.f5 = 0 <;> cases e4 : x.f4 <;> cases e6 : x.f6 <;> simp_all
  · refine Ev.ifc (fun e4 => ?_) (fun e4 => Ev.ifc (fun e5 => ?_) (fun e5 => no (fun q => by rcases q.2.2.2.2 with z | z | z <;> omega)))
    · by_cases e : x.f1 = 0 ∧ x.f2 = 0 ∧ x.f5 = 0 ∧ x.f6 = false
      · exact Ev.some_ (by rw [okB_yes ⟨a, b, c, d, .inr (.inl ⟨k2, e.2.2.1, e.2.2.2, fun _ => ⟨e.1, e.2.1⟩⟩)⟩]; have : x.f3 = 0 := by omega
                           simp [k2, e, e4, this])
      · refine Ev.some_ ?_
        rw [okB_no (fun q => by rcases q.2.2.2.2 with z | z | z; omega; exact e ⟨(z.2.2.2 e4).1, (z.2.2.2 e4).2, z.2.1, z.2.2.1⟩; omega)]
        by_cases e1 : x.f1 = 0 <;> by_cases e2 : x.f2 = 0 <;> by_cases e5 : x.f5 = 0 <;> cases e6 : x.f6 <;> simp_all
    · cases e6 : x.f6 with
      | true => exact Ev.some_ (by rw [okB_no (fun q => by rcases q.2.2.2.2 with z | z | z; omega; simp_all; omega)]; rfl)
      | false => exact Ev.some_ (okB_yes ⟨a, b, c, d, .inr (.inl ⟨k2, e5, e6, fun z => absurd z e4⟩)⟩).symm
  · refine Ev.ifc (fun e2 => Ev.ifc (fun e3 => Ev.ifc (fun e4 => ?_) (fun e4 => Ev.ifc (fun e5 => ?_) (fun e5 => ?_))) (fun e3 => ?_)) (fun e2 => ?_)
    · exact no (fun q => by rcases q.2.2.2.2 with z | z | z <;> simp_all <;> omega)
    · by_cases e6 : x.f5 ≤ 10000
      · exact Ev.some_ (by rw [okB_yes ⟨a, b, c, d, .inr (.inr ⟨k3, e2, e3, by simpa using e4, e5, e6⟩)⟩, decide_eq_true e6])
      · exact Ev.some_ (by rw [okB_no (fun q => by rcases q.2.2.2.2 with z | z | z <;> omega), decide_eq_false e6])
    all_goals exact no (fun q => by rcases q.2.2.2.2 with z | z | z <;> omega)
end Go.Proofs.Ytdkmmddakidieaa.P
