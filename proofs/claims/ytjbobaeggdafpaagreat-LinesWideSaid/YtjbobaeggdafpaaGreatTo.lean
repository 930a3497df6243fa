/- A paragraph's text and runs: the first fault, by the program and by the reference. -/
import Derived.Test.YtjbobaeggdafpaaGreatTn
namespace Go.Proofs.YtjbobaeggdafpaaGreat.Vm
open Go
open _root_.Go.RowKit (wrap64)
theorem cnt_last (s : ByteArray) : ∀ d p, cnt s (d + 1) p = cnt s d p + (if by_ s (p + d) = 10 then 1 else 0)
 | 0, p => by simp [cnt]
 | d + 1, p => by
  rw [cnt, cnt_last s d (p + 1), cnt, show p + 1 + d = p + (d + 1) by omega]
  omega
theorem cnt_zero (s : ByteArray) : ∀ d p, cnt s d p = 0 ↔ ∀ i, i < d → by_ s (p + i) ≠ 10
 | 0, p => ⟨fun _ i h => by omega, fun _ => rfl⟩
 | d + 1, p => by
  rw [cnt_last]
  constructor
  · intro h i hi
    by_cases e : i = d
    · subst e; intro q; rw [if_pos q] at h; omega
    · exact (cnt_zero s d p).1 (by omega) i (by omega)
  · intro h
    rw [(cnt_zero s d p).2 (fun i hi => h i (by omega)), if_neg (h d (by omega))]
def runC (n : Nat) (s : ByteArray) : Nat → List (Int × Int) → Int
 | p, [] => if p = s.size then 0 else 70
 | p, x :: r => if x.1 < 0 ∨ (s.size : Int) - p < x.1 then 70 else if ¬ (0 ≤ x.2 ∧ x.2 < n) then 43 else if p + x.1.toNat < s.size ∧ 128 ≤ by_ s (p + x.1.toNat) ∧ by_ s (p + x.1.toNat) < 192 then 21 else runC n s (p + x.1.toNat) r
theorem iCheck_loop (l : List Styl) (s : ByteArray) (hs : s.size ≤ 1000000) (R : List (Int × Int)) (hR : R.length ≤ 1000000) : ∀ (d i p : Nat), i + d = R.length → p ≤ s.size → Ev (fun k => items_Check.l1 k l s (p : Int) R (R.length : Int) (i : Int)) (runC l.length s p (R.drop i)) := by
 intro d
 induction d with
 | zero =>
  intro i p e hp
  rw [List.drop_of_length_le (by omega)]
  refine Ev.st (fun k => by rw [items_Check.l1]) (Ev.dn (by omega) ?_)
  unfold runC
  exact Ev.xc (fun h => Ev.some_ (by rw [if_neg (by omega)])) (fun h => Ev.some_ (by rw [if_pos (by omega)]))
 | succ d ih =>
  intro i p e hp
  rw [drop_rd R i (by omega)]
  refine Ev.st (fun k => by rw [items_Check.l1]) (Ev.dp (by omega) ?_)
  refine Ev.at_ (by omega) (by omega) ?_
  have ih' := ih (i + 1) (p + (rd R (i : Int)).1.toNat) (by omega)
  generalize rd R (i : Int) = x at *
  rw [w64 (x := (s.size : Int) - (p : Int)) (by omega) (by omega)]
  unfold runC
  refine Ev.dc (fun h => Ev.some_ (by rw [if_pos (.inl h)])) (fun h => Ev.dc (fun h1 => Ev.some_ (by rw [if_pos (.inr h1)])) (fun h1 => ?_))
  rw [if_neg (by omega)]
  refine Ev.st (fun k => by rw [items_Check.j2]) ?_
  refine Ev.bind (TCheck_ev l x.2) ?_
  by_cases c : 0 ≤ x.2 ∧ x.2 < l.length
  · rw [if_pos c, if_neg (show ¬ ¬ (0 ≤ x.2 ∧ x.2 < (l.length : Int)) from fun z => z c)]
    refine Ev.xn rfl ?_
    rw [w64 (x := (p : Int) + x.1) (by omega) (by omega), show (p : Int) + x.1 = ((p + x.1.toNat : Nat) : Int) by omega]
    refine Ev.bind (Boundary_ev s _ (by omega)) ?_
    by_cases z : p + x.1.toNat < s.size ∧ 128 ≤ by_ s (p + x.1.toNat) ∧ by_ s (p + x.1.toNat) < 192
    · rw [if_pos z, if_pos z]
      exact Ev.xp (by decide) (Ev.now _)
    · rw [if_neg z, if_neg z]
      refine Ev.xn rfl ?_
      rw [nx i (by omega)]
      exact ih' (by omega)
  · rw [if_neg c, if_pos c]
    exact Ev.xp (by decide) (Ev.now _)
end Go.Proofs.YtjbobaeggdafpaaGreat.Vm
