/- Items: when they may be a paragraph's, and where a line may end: what the program's and the reference's functions come to. -/
import Derived.Test.YtkkhgbcmjeaghaaQ1
import Derived.Test.YtkkhgbcmjeaghaaKit
namespace Go.Proofs.Ytkkhgbcmjeaghaa.Vm
open Go
open _root_.Go.RowKit (wrap64)
/-- may an item be? (by what a line does with it) -/
def OkI (x : api_Item) : Prop := (0 ≤ x.2.1 ∧ x.2.1 ≤ 68719476736) ∧ (0 ≤ x.2.2.1 ∧ x.2.2.1 ≤ 68719476736) ∧ (0 ≤ x.2.2.2.1 ∧ x.2.2.2.1 ≤ 68719476736) ∧ x.2.2.2.1 ≤ x.2.1 ∧
  ((x.1 = 1 ∧ x.2.2.1 = 0 ∧ x.2.2.2.1 = 0 ∧ x.2.2.2.2.1 = false ∧ x.2.2.2.2.2.1 = 0 ∧ x.2.2.2.2.2.2.1 = false) ∨ (x.1 = 2 ∧ x.2.2.2.2.2.1 = 0 ∧ x.2.2.2.2.2.2.1 = false ∧ (x.2.2.2.2.1 = true → x.2.1 = 0 ∧ x.2.2.1 = 0)) ∨ (x.1 = 3 ∧ x.2.2.1 = 0 ∧ x.2.2.2.1 = 0 ∧ x.2.2.2.2.1 = false ∧ -10000 ≤ x.2.2.2.2.2.1 ∧ x.2.2.2.2.2.1 ≤ 10000))
theorem msr_ev (n : Int) : Ev (fun k => items_measure.f k n) (decide (0 ≤ n ∧ n ≤ 68719476736)) := by
  refine Ev.dc (fun h => Ev.some_ ?_) (fun h => Ev.some_ ?_)
  · rw [decide_eq_decide]; omega
  · rw [eq_comm, decide_eq_false_iff_not]; omega
theorem fits_ev (x : api_Item) : Ev (fun k => items_fits.f k x) (isTrue (OkI x)) := by
  have no : ¬ OkI x → Ev (fun _ => some false) (isTrue (OkI x)) := fun h => Ev.some_ (isTrue_no h).symm
  refine Ev.bind (msr_ev _) (Ev.nc (fun h => no fun q => ?_) (fun h1 => Ev.bind (msr_ev _) (Ev.nc (fun h => no fun q => ?_) (fun h2 => Ev.bind (msr_ev _) (Ev.nc (fun h => no fun q => ?_) (fun h3 => Ev.dc (fun h => no fun q => ?_) (fun h4 => ?_)))))))
  · exact of_decide_eq_false h q.1
  · exact of_decide_eq_false h q.2.1
  · exact of_decide_eq_false h q.2.2.1
  · have := q.2.2.2.1; omega
  have a := of_decide_eq_true h1
  have b := of_decide_eq_true h2
  have c := of_decide_eq_true h3
  have d : x.2.2.2.1 ≤ x.2.1 := by omega
  have key : OkI x ↔ ((x.1 = 1 ∧ x.2.2.1 = 0 ∧ x.2.2.2.1 = 0 ∧ x.2.2.2.2.1 = false ∧ x.2.2.2.2.2.1 = 0 ∧ x.2.2.2.2.2.2.1 = false) ∨ (x.1 = 2 ∧ x.2.2.2.2.2.1 = 0 ∧ x.2.2.2.2.2.2.1 = false ∧ (x.2.2.2.2.1 = true → x.2.1 = 0 ∧ x.2.2.1 = 0)) ∨ (x.1 = 3 ∧ x.2.2.1 = 0 ∧ x.2.2.2.1 = 0 ∧ x.2.2.2.2.1 = false ∧ -10000 ≤ x.2.2.2.2.2.1 ∧ x.2.2.2.2.2.1 ≤ 10000)) :=
    ⟨fun q => q.2.2.2.2, fun q => ⟨a, b, c, d, q⟩⟩
  obtain ⟨k0, w, m, s, f, co, fl, fr, to⟩ := x
  dsimp only at *
  refine Ev.st (fun k => by rw [items_fits.j0]) ?_
  dsimp only
  refine Ev.dc (fun k1 => ?_) (fun k1 => Ev.dc (fun k2 => ?_) (fun k2 => Ev.dc (fun k3 => ?_) (fun k3 => no fun q => by rcases key.1 q with z | z | z <;> omega)))
  · refine Ev.dc (fun e2 => Ev.dc (fun e3 => Ev.dc (fun e5 => Ev.nc (fun e4 => Ev.some_ (isTrue_bool ?_)) (fun e4 => no fun q => ?_)) (fun e5 => no fun q => ?_)) (fun e3 => no fun q => ?_)) (fun e2 => no fun q => ?_)
    · rw [key]; cases fl <;> simp_all
    all_goals (rcases key.1 q with z | z | z <;> first | omega | simp_all)
  · refine Ev.dc (fun e5 => Ev.nc (fun e6 => Ev.nc (fun e4 => Ev.some_ (isTrue_yes ?_).symm) (fun e4 => Ev.dc (fun e1 => Ev.some_ (isTrue_bool ?_)) (fun e1 => no fun q => ?_))) (fun e6 => no fun q => ?_)) (fun e5 => no fun q => ?_)
    · rw [key]; exact .inr (.inl ⟨k2, e5, e6, fun z => by rw [e4] at z; cases z⟩)
    · rw [key, decide_eq_true_iff]
      exact ⟨fun e2 => .inr (.inl ⟨k2, e5, e6, fun _ => ⟨e1, e2⟩⟩), fun q => by rcases q with z | z | z; omega; exact (z.2.2.2 e4).2; omega⟩
    all_goals (rcases key.1 q with z | z | z <;> first | omega | simp_all)
  · refine Ev.dc (fun e2 => Ev.dc (fun e3 => Ev.nc (fun e4 => Ev.dc (fun e5 => Ev.some_ (isTrue_bool ?_)) (fun e5 => no fun q => ?_)) (fun e4 => no fun q => ?_)) (fun e3 => no fun q => ?_)) (fun e2 => no fun q => ?_)
    · rw [key, decide_eq_true_iff]
      exact ⟨fun e6 => .inr (.inr ⟨k3, e2, e3, e4, e5, e6⟩), fun q => by rcases q with z | z | z; omega; omega; exact z.2.2.2.2.2⟩
    all_goals (rcases key.1 q with z | z | z <;> first | omega | simp_all)
theorem one_ev (x : api_Item) : Ev (fun k => regletref07_one.f k x) (isTrue (OkI x)) := by
  have no : ¬ OkI x → Ev (fun _ => some false) (isTrue (OkI x)) := fun h => Ev.some_ (isTrue_no h).symm
  have step : ∀ (i : Int) (y : Int), 0 ≤ i → i < 3 → rd [x.2.1, x.2.2.1, x.2.2.2.1] i = y → (¬ (0 ≤ y ∧ y ≤ 68719476736) → ¬ OkI x) →
      (0 ≤ y ∧ y ≤ 68719476736 → Ev (fun k => regletref07_one.l0 k [x.2.1, x.2.2.1, x.2.2.2.1] (i + 1) x) (isTrue (OkI x))) →
      Ev (fun k => regletref07_one.l0 k [x.2.1, x.2.2.1, x.2.2.2.1] i x) (isTrue (OkI x)) := by
    intro i y h0 h3 hy hn hk
    refine Ev.st (fun k => by rw [regletref07_one.l0]) (Ev.dp (by simpa using h3) (Ev.gx h0 (by simpa using h3) ?_))
    rw [hy]
    refine Ev.dc (fun q => no (hn (by omega))) (fun q => Ev.gx h0 (by simpa using h3) ?_)
    rw [hy]
    refine Ev.dc (fun q2 => no (hn (by omega))) (fun q2 => Ev.st (fun k => by rw [regletref07_one.j1]) ?_)
    rw [w64 (x := i + 1) (by omega) (by omega)]
    exact hk (by omega)
  refine step 0 x.2.1 (by omega) (by omega) rfl (fun h q => h q.1) (fun a => ?_)
  refine step 1 x.2.2.1 (by omega) (by omega) rfl (fun h q => h q.2.1) (fun b => ?_)
  refine step 2 x.2.2.2.1 (by omega) (by omega) rfl (fun h q => h q.2.2.1) (fun c => ?_)
  refine Ev.st (fun k => by rw [regletref07_one.l0]) (Ev.dn (by simp) (Ev.dc (fun h => no (fun q => by have := q.2.2.2.1; omega)) (fun d => ?_)))
  have d : x.2.2.2.1 ≤ x.2.1 := by omega
  have key : OkI x ↔ ((x.1 = 1 ∧ x.2.2.1 = 0 ∧ x.2.2.2.1 = 0 ∧ x.2.2.2.2.1 = false ∧ x.2.2.2.2.2.1 = 0 ∧ x.2.2.2.2.2.2.1 = false) ∨ (x.1 = 2 ∧ x.2.2.2.2.2.1 = 0 ∧ x.2.2.2.2.2.2.1 = false ∧ (x.2.2.2.2.1 = true → x.2.1 = 0 ∧ x.2.2.1 = 0)) ∨ (x.1 = 3 ∧ x.2.2.1 = 0 ∧ x.2.2.2.1 = 0 ∧ x.2.2.2.2.1 = false ∧ -10000 ≤ x.2.2.2.2.2.1 ∧ x.2.2.2.2.2.1 ≤ 10000)) :=
    ⟨fun q => q.2.2.2.2, fun q => ⟨a, b, c, d, q⟩⟩
  obtain ⟨k0, w, m, s, f, co, fl, fr, to⟩ := x
  dsimp only at *
  refine Ev.dc (fun k1 => Ev.some_ (isTrue_bool ?_)) (fun k1 => Ev.dc (fun k2 => Ev.bc (fun e4 => Ev.some_ (isTrue_bool ?_)) (fun e4 => Ev.dc (fun e5 => Ev.some_ (isTrue_bool ?_)) (fun e5 => no fun q => ?_))) (fun k2 => Ev.dc (fun k3 => ?_) (fun k3 => no fun q => by rcases key.1 q with z | z | z <;> omega)))
  · rw [key]
    simp only [Bool.and_eq_true, decide_eq_true_eq, and_true, true_and]
    constructor
    · rintro ⟨z1, z2, z3, z4, z5, z6⟩; exact .inl ⟨z1, z2, z3, z4, z5, z6⟩
    · rintro (z | z | z)
      · exact ⟨z.1, z.2.1, z.2.2.1, z.2.2.2.1, z.2.2.2.2.1, z.2.2.2.2.2⟩
      all_goals omega
  · rw [key]
    simp only [Bool.and_eq_true, decide_eq_true_eq, and_true]
    constructor
    · rintro ⟨z1, z2, z3, z4, z5, z6, z7⟩; exact .inr (.inl ⟨z1, z6, z7, fun _ => ⟨z2, z3⟩⟩)
    · rintro (z | z | z)
      · omega
      · have := z.2.2.2 e4; exact ⟨z.1, this.1, this.2, by omega, e4, z.2.1, z.2.2.1⟩
      · omega
  · rw [key]
    constructor
    · intro z; exact .inr (.inl ⟨k2, e5, by simpa using z, fun q => by rw [e4] at q; cases q⟩)
    · rintro (z | z | z)
      · omega
      · rw [z.2.2.1]; rfl
      · omega
  · rcases key.1 q with z | z | z <;> omega
  · refine Ev.dc (fun e2 => Ev.dc (fun e3 => Ev.nc (fun e4 => Ev.dc (fun e5 => Ev.some_ (isTrue_bool ?_)) (fun e5 => no fun q => ?_)) (fun e4 => no fun q => ?_)) (fun e3 => no fun q => ?_)) (fun e2 => no fun q => ?_)
    · rw [key, decide_eq_true_iff]
      exact ⟨fun e6 => .inr (.inr ⟨k3, e2, e3, e4, e5, e6⟩), fun q => by rcases q with z | z | z; omega; omega; exact z.2.2.2.2.2⟩
    all_goals (rcases key.1 q with z | z | z <;> first | omega | simp_all)
/-- must a line end there? -/
def Fc (x : api_Item) : Prop := x.1 = 3 ∧ x.2.2.2.2.2.1 ≤ -10000
instance (x : api_Item) : Decidable (Fc x) := by unfold Fc; infer_instance
theorem fcd_ev (x : api_Item) : Ev (fun k => items_Forced.f k x) (decide (Fc x)) := by
  refine Ev.dc (fun h => Ev.some_ ?_) (fun h => Ev.some_ ?_)
  · rw [decide_eq_decide]; exact ⟨fun q => ⟨h, q⟩, fun q => q.2⟩
  · exact (decide_eq_false (fun q : Fc x => h q.1)).symm
theorem rfcd_ev (x : api_Item) : Ev (fun k => regletref07_Forced.f k x) (decide (Fc x)) := by
  refine Ev.dc (fun h => Ev.some_ ?_) (fun h => Ev.some_ ?_)
  · rw [decide_eq_decide]; exact ⟨fun q => ⟨h, q⟩, fun q => q.2⟩
  · exact (decide_eq_false (fun q : Fc x => h q.1)).symm
/-- are items right, from a place in the text on? -/
def RtL : Int → List api_Item → Prop
 | _, [] => True
 | p, x :: r => (x.2.2.2.2.2.2.2.1 = p ∧ x.2.2.2.2.2.2.2.1 ≤ x.2.2.2.2.2.2.2.2 ∧ x.2.2.2.2.2.2.2.2 ≤ 65536) ∧ OkI x ∧ RtL x.2.2.2.2.2.2.2.2 r
theorem rtB_cons {p : Int} {x : api_Item} {r : List api_Item} (h : x.2.2.2.2.2.2.2.1 = p ∧ x.2.2.2.2.2.2.2.1 ≤ x.2.2.2.2.2.2.2.2 ∧ x.2.2.2.2.2.2.2.2 ≤ 65536) (ho : OkI x) : isTrue (RtL p (x :: r)) = isTrue (RtL x.2.2.2.2.2.2.2.2 r) := by
  by_cases q : RtL x.2.2.2.2.2.2.2.2 r
  · rw [isTrue_yes q, isTrue_yes (show RtL p (x :: r) from ⟨h, ho, q⟩)]
  · rw [isTrue_no q, isTrue_no (show ¬ RtL p (x :: r) from fun z => q z.2.2)]
theorem iR (l : List api_Item) (hl : l.length ≤ 262144) : ∀ m p (i : Nat), i + m = l.length → Ev (fun k => items_Right.l1 k p l (l.length : Int) (i : Int)) (if isTrue (RtL p (l.drop i)) = true then 0 else 70)
 | 0, p, i, e => by
  refine Ev.st (fun k => by rw [items_Right.l1]) (Ev.dn (by omega) (Ev.some_ ?_))
  rw [List.drop_of_length_le (by omega), isTrue_yes (show RtL p [] from trivial)]; rfl
 | m + 1, p, i, e => by
  have hi : i < l.length := by omega
  have no : ¬ RtL p (l.drop i) → Ev (fun _ => some (70 : Int)) (if isTrue (RtL p (l.drop i)) = true then 0 else 70) := fun h => Ev.some_ (by rw [isTrue_no h]; rfl)
  rw [drop_rd l i hi] at no ⊢
  refine Ev.st (fun k => by rw [items_Right.l1]) (Ev.dp (by omega) (Ev.at_ (by omega) (by omega) ?_))
  refine Ev.xc (fun h1 => no (fun q => h1 q.1.1)) (fun h1 => Ev.dc (fun h2 => no (fun q => by have := q.1; omega)) (fun h2 => Ev.dc (fun h3 => no (fun q => by have := q.1; omega)) (fun h3 => Ev.bind (fits_ev _) (Ev.nc (fun h4 => no (fun q => by rw [isTrue_yes q.2.1] at h4; cases h4)) (fun h4 => ?_)))))
  refine Ev.st (fun k => by rw [items_Right.j2]) ?_
  rw [rtB_cons ⟨h1, by omega, by omega⟩ (isTrue_iff.1 h4), nx i (by omega)]
  exact iR l hl m _ (i + 1) (by omega)
theorem rR (l : List api_Item) (hl : l.length ≤ 262144) : ∀ m p (i : Nat), i + m = l.length → (i = 0 → (rd l 0).2.2.2.2.2.2.2.1 = p) → (0 < i → (rd l ((i : Int) - 1)).2.2.2.2.2.2.2.2 = p) → Ev (fun k => regletref07_Right.l1 k l (i : Int)) (isTrue (RtL p (l.drop i)))
 | 0, p, i, e, _, _ => by
  refine Ev.st (fun k => by rw [regletref07_Right.l1]) (Ev.dn (by omega) (Ev.some_ ?_))
  rw [List.drop_of_length_le (by omega), isTrue_yes (show RtL p [] from trivial)]
 | m + 1, p, i, e, h0, hp => by
  have hi : i < l.length := by omega
  have no : ¬ RtL p (l.drop i) → Ev (fun _ => some false) (isTrue (RtL p (l.drop i))) := fun h => Ev.some_ (isTrue_no h).symm
  rw [drop_rd l i hi] at no ⊢
  have go : (rd l (i : Int)).2.2.2.2.2.2.2.1 = p → Ev (fun k => (at? l (i : Int)).bind fun e5 => (at? l (i : Int)).bind fun e6 => if (decide (e5.2.2.2.2.2.2.2.2 < e6.2.2.2.2.2.2.2.1)) = true then (some false) else ((at? l (i : Int)).bind fun e7 => if (decide (65536 < e7.2.2.2.2.2.2.2.2)) = true then (some false) else ((at? l (i : Int)).bind fun e8 => (regletref07_one.f k e8).bind fun r2 => if (!r2) = true then (some false) else (regletref07_Right.j2 k l (i : Int))))) (isTrue (RtL p (rd l (i : Int) :: l.drop (i + 1)))) := by
    intro h1
    refine Ev.at_ (by omega) (by omega) ?_
    refine Ev.at_ (by omega) (by omega) ?_
    refine Ev.dc (fun h2 => no (fun q => by have := q.1; omega)) (fun h2 => Ev.at_ (by omega) (by omega) ?_)
    refine Ev.dc (fun h3 => no (fun q => by have := q.1; omega)) (fun h3 => Ev.at_ (by omega) (by omega) ?_)
    refine Ev.bind (one_ev _) (Ev.nc (fun h4 => no (fun q => by rw [isTrue_yes q.2.1] at h4; cases h4)) (fun h4 => ?_))
    refine Ev.st (fun k => by rw [regletref07_Right.j2]) ?_
    rw [rtB_cons ⟨h1, by omega, by omega⟩ (isTrue_iff.1 h4), nx i (by omega)]
    refine rR l hl m _ (i + 1) (by omega) (by omega) (fun _ => ?_)
    rw [show ((i + 1 : Nat) : Int) - 1 = (i : Int) by omega]
  refine Ev.st (fun k => by rw [regletref07_Right.l1]) (Ev.dp (by omega) (Ev.dc (fun hq => ?_) (fun hq => ?_)))
  · rw [w64 (x := (i : Int) - 1) (by omega) (by omega)]
    refine Ev.at_ (by omega) (by omega) ?_
    refine Ev.at_ (by omega) (by omega) ?_
    exact Ev.xc (fun h1 => no (fun q => h1 (q.1.1.trans (hp (by omega)).symm))) (fun h1 => go (h1.trans (hp (by omega))))
  · have z : i = 0 := by omega
    exact go (by rw [z]; exact h0 z)
/-- may items be a paragraph's? -/
def RightI (l : List api_Item) : Prop := (0 < l.length ∧ l.length ≤ 262144 ∧ Fc (rd l ((l.length : Int) - 1))) ∧ RtL 0 l
theorem isTrue_go {p q : Prop} (h : p) : isTrue (p ∧ q) = isTrue q := by
  by_cases r : q
  · rw [isTrue_yes r, isTrue_yes ⟨h, r⟩]
  · rw [isTrue_no r, isTrue_no (fun z => r z.2)]
theorem Right_ev (l : List api_Item) : Ev (fun k => items_Right.f k l) (if isTrue (RightI l) = true then 0 else 70) := by
  have no : ¬ RightI l → Ev (fun _ => some (70 : Int)) (if isTrue (RightI l) = true then 0 else 70) := fun h => Ev.some_ (by rw [isTrue_no h]; rfl)
  refine Ev.dc (fun h => no (fun q => by have := q.1; omega)) (fun h => Ev.dc (fun h1 => no (fun q => by have := q.1; omega)) (fun h1 => ?_))
  rw [w64 (x := (l.length : Int) - 1) (by omega) (by omega)]
  refine Ev.at_ (by omega) (by omega) ?_
  refine Ev.bind (fcd_ev _) (Ev.nc (fun hf => no (fun q => of_decide_eq_false hf q.1.2.2)) (fun hf => ?_))
  unfold RightI
  rw [isTrue_go ⟨by omega, by omega, of_decide_eq_true hf⟩]
  exact Ev.st (fun k => by rw [items_Right.j0]; rfl) (iR l (by omega) l.length 0 0 (by omega))
theorem rRight_ev (l : List api_Item) : Ev (fun k => regletref07_Right.f k l) (isTrue (RightI l)) := by
  have no : ¬ RightI l → Ev (fun _ => some false) (isTrue (RightI l)) := fun h => Ev.some_ (isTrue_no h).symm
  refine Ev.dc (fun h => no (fun q => by have := q.1; omega)) (fun h => Ev.dc (fun h1 => no (fun q => by have := q.1; omega)) (fun h1 => ?_))
  rw [w64 (x := (l.length : Int) - 1) (by omega) (by omega)]
  refine Ev.at_ (by omega) (by omega) ?_
  refine Ev.bind (rfcd_ev _) (Ev.nc (fun hf => no (fun q => of_decide_eq_false hf q.1.2.2)) (fun hf => Ev.at_ (by omega) (by omega) ?_))
  refine Ev.xc (fun hz => no (fun q => ?_)) (fun hz => ?_)
  · have hd := drop_rd l 0 (by omega)
    rw [List.drop_zero] at hd
    have q2 := q.2
    rw [hd] at q2
    exact hz q2.1.1
  · unfold RightI
    rw [isTrue_go ⟨by omega, by omega, of_decide_eq_true hf⟩]
    exact Ev.st (fun k => by rw [regletref07_Right.j0]; rfl) (rR l (by omega) l.length 0 0 (by omega) (fun _ => hz) (fun h => absurd h (by omega)))
/-- may a line end there? -/
def legB (l : List api_Item) (a : Int) : Bool := if a < 0 then false else if a ≥ (l.length : Int) then false else if (rd l a).1 = 3 then decide ((rd l a).2.2.2.2.2.1 < 10000) else if (rd l a).1 = 2 then if (rd l a).2.2.2.2.1 = true then false else if a > 0 then decide ((rd l (a - 1)).1 = 1) else false else false
theorem Legal_ev (l : List api_Item) (hl : l.length ≤ 281474976710656) (a : Int) : Ev (fun k => items_Legal.f k l a) (legB l a) := by
  unfold legB
  refine Ev.dc (fun h => Ev.some_ (if_pos h).symm) (fun h => ?_)
  rw [if_neg h]
  refine Ev.dc (fun h1 => Ev.some_ (if_pos h1).symm) (fun h1 => ?_)
  rw [if_neg h1]
  refine Ev.st (fun k => by rw [items_Legal.j0]) (Ev.at_ (by omega) (by omega) ?_)
  refine Ev.dc (fun h2 => Ev.some_ (if_pos h2).symm) (fun h2 => ?_)
  rw [if_neg h2]
  refine Ev.dc (fun h3 => ?_) (fun h3 => Ev.some_ (if_neg h3).symm)
  rw [if_pos h3]
  refine Ev.nc (fun h4 => ?_) (fun h4 => Ev.some_ (if_pos h4).symm)
  rw [h4, if_neg Bool.false_ne_true]
  refine Ev.dc (fun h5 => ?_) (fun h5 => Ev.some_ (if_neg h5).symm)
  rw [if_pos h5, w64 (x := a - 1) (by omega) (by omega)]
  exact Ev.at_ (by omega) (by omega) (Ev.now _)
end Go.Proofs.Ytkkhgbcmjeaghaa.Vm
