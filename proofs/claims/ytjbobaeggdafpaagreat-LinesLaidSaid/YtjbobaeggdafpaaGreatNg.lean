/- Chapter 9: the example, breakings alike. -/
import Derived.Test.YtjbobaeggdafpaaGreatNf
import Derived.Test.YtjbobaeggdafpaaGreatV3
namespace Go.Proofs.YtjbobaeggdafpaaGreat.Vm
open Go
open _root_.Go.RowKit (wrap64)
theorem Same_refl (a : zO) (hl : a.1.length ≤ 1000000) : Ev (fun k => wW.f k a a) true := by
 have l1 : ∀ m i : Nat, i + m = a.1.length → Ev (fun k => wW.l1 k (i : Int) a a) true := by
  intro m
  induction m with
  | zero => exact fun i e => Ev.st (fun k => by rw [wW.l1]) (Ev.dn (by omega) (Ev.now _))
  | succ m ih =>
   intro i e
   refine Ev.st (fun k => by rw [wW.l1]) (Ev.dp (by omega) ?_)
   refine Ev.at_ (by omega) (by omega) ?_
   refine Ev.at_ (by omega) (by omega) ?_
   refine Ev.xn rfl ?_
   rw [nx i (by omega)]
   exact ih (i + 1) (by omega)
 exact Ev.xn rfl (Ev.xn rfl (Ev.xn rfl (Ev.st (fun k => by rw [wW.j0]; rfl) (l1 a.1.length 0 (by omega)))))
theorem Net.Way.len {N : Net} : ∀ {W : List Nat} {a : Nat} {c t u : Int}, N.Way a c t W u → a + W.length ≤ N.n
 | [], _, _, _, _, h => by have := h.1; simp; omega
 | j :: r, a, _, _, _, h => by
  have := Net.Way.len h.2
  have := h.1.1
  simp only [List.length_cons]; omega
theorem Brk.uniq {l : List zA} {w : Int} {s : zD} {W W' : List Nat} {u u' : Int} {e e' : Bool} (h : Brk l w s W u e) (k : Brk l w s W' u' e') : W = W' ∧ u = u' ∧ e = e' := by
 have ee : e = e' := by
  cases e with
  | true =>
   cases e' with
   | true => rfl
   | false => exact absurd k.first.1 (h.tight rfl _ _)
  | false =>
   cases e' with
   | true => exact absurd h.first.1 (k.tight rfl _ _)
   | false => rfl
 subst ee
 have := h.first.uniq k.first
 exact ⟨this.1, this.2, rfl⟩
theorem Brk.len {l : List zA} {w : Int} {s : zD} {W : List Nat} {u : Int} {e : Bool} (h : Brk l w s W u e) : W.length ≤ (ends l).length := by
 have := h.first.1.len
 rwa [Nat.zero_add] at this
end Go.Proofs.YtjbobaeggdafpaaGreat.Vm
