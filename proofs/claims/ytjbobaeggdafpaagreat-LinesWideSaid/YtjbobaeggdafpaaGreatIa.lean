/- Items: when they may be a paragraph's, and where a line may end: what the program's and the reference's functions come to. -/
import Derived.Test.YtjbobaeggdafpaaGreatQz
import Derived.Test.YtjbobaeggdafpaaGreatKit
namespace Go.Proofs.YtjbobaeggdafpaaGreat.Vm
open Go
open _root_.Go.RowKit (wrap64)
def OkI (x : api_Item) : Prop := (0 ≤ x.2.1 ∧ x.2.1 ≤ 68719476736) ∧ (0 ≤ x.2.2.1 ∧ x.2.2.1 ≤ 68719476736) ∧ (0 ≤ x.2.2.2.1 ∧ x.2.2.2.1 ≤ 68719476736) ∧ x.2.2.2.1 ≤ x.2.1 ∧
 ((x.1 = 1 ∧ x.2.2.1 = 0 ∧ x.2.2.2.1 = 0 ∧ x.2.2.2.2.1 = false ∧ x.2.2.2.2.2.1 = 0 ∧ x.2.2.2.2.2.2.1 = false) ∨ (x.1 = 2 ∧ x.2.2.2.2.2.1 = 0 ∧ x.2.2.2.2.2.2.1 = false ∧ (x.2.2.2.2.1 = true → x.2.1 = 0 ∧ x.2.2.1 = 0)) ∨ (x.1 = 3 ∧ x.2.2.1 = 0 ∧ x.2.2.2.1 = 0 ∧ x.2.2.2.2.1 = false ∧ -10000 ≤ x.2.2.2.2.2.1 ∧ x.2.2.2.2.2.1 ≤ 10000))
theorem msr_ev (n : Int) : Ev (fun k => items_measure.f k n) (decide (0 ≤ n ∧ n ≤ 68719476736)) := by
 refine Ev.dc (fun h => Ev.some_ ?_) (fun h => Ev.some_ ?_)
 · rw [decide_eq_decide]; omega
 · rw [eq_comm, decide_eq_false_iff_not]; omega
theorem fits_ev (x : api_Item) : Ev (fun k => items_fits.f k x) (isTrue (OkI x)) := by
 have no : ¬ OkI x → Ev (fun _ => some false) (isTrue (OkI x)) := fun h => Ev.some_ (isTrue_no h).symm
 refine Ev.bind (msr_ev _) (Ev.nc (fun h => no fun q => ?_) (fun h1 => Ev.bind (msr_ev _) (Ev.nc (fun h => no fun q => ?_) (fun h2 => Ev.bind (msr_ev _) (Ev.nc (fun h => no fun q => ?_) (fun h3 => Ev.dc (fun h => no fun q => ?_) (fun h4 => ?_)))))))
 · exact of_decide_eq_false h q.1
 · exact of_decide_eq_false h q.2.1
 · exact of_decide_eq_false h q.2.2.1
 · have := q.2.2.2.1; omega
 have a := of_decide_eq_true h1
 have b := of_decide_eq_true h2
 have c := of_decide_eq_true h3
 have d : x.2.2.2.1 ≤ x.2.1 := by omega
 have key : OkI x ↔ ((x.1 = 1 ∧ x.2.2.1 = 0 ∧ x.2.2.2.1 = 0 ∧ x.2.2.2.2.1 = false ∧ x.2.2.2.2.2.1 = 0 ∧ x.2.2.2.2.2.2.1 = false) ∨ (x.1 = 2 ∧ x.2.2.2.2.2.1 = 0 ∧ x.2.2.2.2.2.2.1 = false ∧ (x.2.2.2.2.1 = true → x.2.1 = 0 ∧ x.2.2.1 = 0)) ∨ (x.1 = 3 ∧ x.2.2.1 = 0 ∧ x.2.2.2.1 = 0 ∧ x.2.2.2.2.1 = false ∧ -10000 ≤ x.2.2.2.2.2.1 ∧ x.2.2.2.2.2.1 ≤ 10000)) :=
  ⟨fun q => q.2.2.2.2, fun q => ⟨a, b, c, d, q⟩⟩
 obtain ⟨k0, w, m, s, f, co, fl, fr, to⟩ := x
 dsimp only at *
 refine Ev.st (fun k => by rw [items_fits.j0]) ?_
 dsimp only
 refine Ev.dc (fun k1 => ?_) (fun k1 => Ev.dc (fun k2 => ?_) (fun k2 => Ev.dc (fun k3 => ?_) (fun k3 => no fun q => by rcases key.1 q with z | z | z <;> omega)))
 · refine Ev.dc (fun e2 => Ev.dc (fun e3 => Ev.dc (fun e5 => Ev.nc (fun e4 => Ev.some_ (isTrue_bool ?_)) (fun e4 => no fun q => ?_)) (fun e5 => no fun q => ?_)) (fun e3 => no fun q => ?_)) (fun e2 => no fun q => ?_)
   · rw [key]; cases fl <;> simp_all
   all_goals (rcases key.1 q with z | z | z <;> first | omega | simp_all)
 · refine Ev.dc (fun e5 => Ev.nc (fun e6 => Ev.nc (fun e4 => Ev.some_ (isTrue_yes ?_).symm) (fun e4 => Ev.dc (fun e1 => Ev.some_ (isTrue_bool ?_)) (fun e1 => no fun q => ?_))) (fun e6 => no fun q => ?_)) (fun e5 => no fun q => ?_)
   · rw [key]; exact .inr (.inl ⟨k2, e5, e6, fun z => by rw [e4] at z; cases z⟩)
   · rw [key, decide_eq_true_iff]
     exact ⟨fun e2 => .inr (.inl ⟨k2, e5, e6, fun _ => ⟨e1, e2⟩⟩), fun q => by rcases q with z | z | z; omega; exact (z.2.2.2 e4).2; omega⟩
   all_goals (rcases key.1 q with z | z | z <;> first | omega | simp_all)
 · refine Ev.dc (fun e2 => Ev.dc (fun e3 => Ev.nc (fun e4 => Ev.dc (fun e5 => Ev.some_ (isTrue_bool ?_)) (fun e5 => no fun q => ?_)) (fun e4 => no fun q => ?_)) (fun e3 => no fun q => ?_)) (fun e2 => no fun q => ?_)
   · rw [key, decide_eq_true_iff]
     exact ⟨fun e6 => .inr (.inr ⟨k3, e2, e3, e4, e5, e6⟩), fun q => by rcases q with z | z | z; omega; omega; exact z.2.2.2.2.2⟩
   all_goals (rcases key.1 q with z | z | z <;> first | omega | simp_all)
def Fc (x : api_Item) : Prop := x.1 = 3 ∧ x.2.2.2.2.2.1 ≤ -10000
instance (x : api_Item) : Decidable (Fc x) := by unfold Fc; infer_instance
theorem fcd_ev (x : api_Item) : Ev (fun k => items_Forced.f k x) (decide (Fc x)) := by
 refine Ev.dc (fun h => Ev.some_ ?_) (fun h => Ev.some_ ?_)
 · rw [decide_eq_decide]; exact ⟨fun q => ⟨h, q⟩, fun q => q.2⟩
 · exact (decide_eq_false (fun q : Fc x => h q.1)).symm
theorem rfcd_ev (x : api_Item) : Ev (fun k => regletref07_Forced.f k x) (decide (Fc x)) := by
 refine Ev.dc (fun h => Ev.some_ ?_) (fun h => Ev.some_ ?_)
 · rw [decide_eq_decide]; exact ⟨fun q => ⟨h, q⟩, fun q => q.2⟩
 · exact (decide_eq_false (fun q : Fc x => h q.1)).symm
def RtL : Int → List api_Item → Prop
 | _, [] => True
 | p, x :: r => (x.2.2.2.2.2.2.2.1 = p ∧ x.2.2.2.2.2.2.2.1 ≤ x.2.2.2.2.2.2.2.2 ∧ x.2.2.2.2.2.2.2.2 ≤ 65536) ∧ OkI x ∧ RtL x.2.2.2.2.2.2.2.2 r
theorem rtB_cons {p : Int} {x : api_Item} {r : List api_Item} (h : x.2.2.2.2.2.2.2.1 = p ∧ x.2.2.2.2.2.2.2.1 ≤ x.2.2.2.2.2.2.2.2 ∧ x.2.2.2.2.2.2.2.2 ≤ 65536) (ho : OkI x) : isTrue (RtL p (x :: r)) = isTrue (RtL x.2.2.2.2.2.2.2.2 r) := by
 by_cases q : RtL x.2.2.2.2.2.2.2.2 r
 · rw [isTrue_yes q, isTrue_yes (show RtL p (x :: r) from ⟨h, ho, q⟩)]
 · rw [isTrue_no q, isTrue_no (show ¬ RtL p (x :: r) from fun z => q z.2.2)]
theorem iR (l : List api_Item) (hl : l.length ≤ 262144) : ∀ m p (i : Nat), i + m = l.length → Ev (fun k => items_Right.l1 k p l (l.length : Int) (i : Int)) (if isTrue (RtL p (l.drop i)) = true then 0 else 70)
 | 0, p, i, e => by
  refine Ev.st (fun k => by rw [items_Right.l1]) (Ev.dn (by omega) (Ev.some_ ?_))
  rw [List.drop_of_length_le (by omega), isTrue_yes (show RtL p [] from trivial)]; rfl
 | m + 1, p, i, e => by
  have hi : i < l.length := by omega
  have no : ¬ RtL p (l.drop i) → Ev (fun _ => some (70 : Int)) (if isTrue (RtL p (l.drop i)) = true then 0 else 70) := fun h => Ev.some_ (by rw [isTrue_no h]; rfl)
  rw [drop_rd l i hi] at no ⊢
  refine Ev.st (fun k => by rw [items_Right.l1]) (Ev.dp (by omega) (Ev.at_ (by omega) (by omega) ?_))
  refine Ev.xc (fun h1 => no (fun q => h1 q.1.1)) (fun h1 => Ev.dc (fun h2 => no (fun q => by have := q.1; omega)) (fun h2 => Ev.dc (fun h3 => no (fun q => by have := q.1; omega)) (fun h3 => Ev.bind (fits_ev _) (Ev.nc (fun h4 => no (fun q => by rw [isTrue_yes q.2.1] at h4; cases h4)) (fun h4 => ?_)))))
  refine Ev.st (fun k => by rw [items_Right.j2]) ?_
  rw [rtB_cons ⟨h1, by omega, by omega⟩ (isTrue_iff.1 h4), nx i (by omega)]
  exact iR l hl m _ (i + 1) (by omega)
def RightI (l : List api_Item) : Prop := (0 < l.length ∧ l.length ≤ 262144 ∧ Fc (rd l ((l.length : Int) - 1))) ∧ RtL 0 l
theorem isTrue_go {p q : Prop} (h : p) : isTrue (p ∧ q) = isTrue q := by
 by_cases r : q
 · rw [isTrue_yes r, isTrue_yes ⟨h, r⟩]
 · rw [isTrue_no r, isTrue_no (fun z => r z.2)]
theorem Right_ev (l : List api_Item) : Ev (fun k => items_Right.f k l) (if isTrue (RightI l) = true then 0 else 70) := by
 have no : ¬ RightI l → Ev (fun _ => some (70 : Int)) (if isTrue (RightI l) = true then 0 else 70) := fun h => Ev.some_ (by rw [isTrue_no h]; rfl)
 refine Ev.dc (fun h => no (fun q => by have := q.1; omega)) (fun h => Ev.dc (fun h1 => no (fun q => by have := q.1; omega)) (fun h1 => ?_))
 rw [w64 (x := (l.length : Int) - 1) (by omega) (by omega)]
 refine Ev.at_ (by omega) (by omega) ?_
 refine Ev.bind (fcd_ev _) (Ev.nc (fun hf => no (fun q => of_decide_eq_false hf q.1.2.2)) (fun hf => ?_))
 unfold RightI
 rw [isTrue_go ⟨by omega, by omega, of_decide_eq_true hf⟩]
 exact Ev.st (fun k => by rw [items_Right.j0]; rfl) (iR l (by omega) l.length 0 0 (by omega))
def legB (l : List api_Item) (a : Int) : Bool := if a < 0 then false else if a ≥ (l.length : Int) then false else if (rd l a).1 = 3 then decide ((rd l a).2.2.2.2.2.1 < 10000) else if (rd l a).1 = 2 then if (rd l a).2.2.2.2.1 = true then false else if a > 0 then decide ((rd l (a - 1)).1 = 1) else false else false
theorem Legal_ev (l : List api_Item) (hl : l.length ≤ 281474976710656) (a : Int) : Ev (fun k => items_Legal.f k l a) (legB l a) := by
 unfold legB
 refine Ev.dc (fun h => Ev.some_ (if_pos h).symm) (fun h => ?_)
 rw [if_neg h]
 refine Ev.dc (fun h1 => Ev.some_ (if_pos h1).symm) (fun h1 => ?_)
 rw [if_neg h1]
 refine Ev.st (fun k => by rw [items_Legal.j0]) (Ev.at_ (by omega) (by omega) ?_)
 refine Ev.dc (fun h2 => Ev.some_ (if_pos h2).symm) (fun h2 => ?_)
 rw [if_neg h2]
 refine Ev.dc (fun h3 => ?_) (fun h3 => Ev.some_ (if_neg h3).symm)
 rw [if_pos h3]
 refine Ev.nc (fun h4 => ?_) (fun h4 => Ev.some_ (if_pos h4).symm)
 rw [h4, if_neg Bool.false_ne_true]
 refine Ev.dc (fun h5 => ?_) (fun h5 => Ev.some_ (if_neg h5).symm)
 rw [if_pos h5, w64 (x := a - 1) (by omega) (by omega)]
 exact Ev.at_ (by omega) (by omega) (Ev.now _)
end Go.Proofs.YtjbobaeggdafpaaGreat.Vm
