/- Chapter 9: the example, breakings alike. -/
import Derived.Test.YtpnodmiincdljaaNf
import Derived.Test.YtpnodmiincdljaaV3
namespace Go.Proofs.Ytpnodmiincdljaa.Vm
open Go
open _root_.Go.RowKit (wrap64)
abbrev tItem : Ty := .cons (.i .i64) (.cons (.i .i64) (.cons (.i .i64) (.cons (.i .i64) (.cons .b (.cons (.i .i64) (.cons .b (.cons (.i .i64) (.i .i64))))))))
abbrev tSet : Ty := .cons (.i .i64) (.cons (.i .i64) (.cons (.i .i64) (.cons (.i .i64) (.cons (.i .i64) (.cons (.i .i64) (.i .i64))))))
theorem awake09_ev : Ev (fun k => regletlaw09_awake.f k) true := Ev.far 200 (fun k => by kernel_rfl)
theorem Same_refl (a : api_Breaking) (hl : a.1.length ≤ 1000000) : Ev (fun k => regletref09_Same.f k a a) true := by
  have l1 : ∀ m i : Nat, i + m = a.1.length → Ev (fun k => regletref09_Same.l1 k (i : Int) a a) true := by
    intro m
    induction m with
    | zero => exact fun i e => Ev.st (fun k => by rw [regletref09_Same.l1]) (Ev.dn (by omega) (Ev.now _))
    | succ m ih =>
      intro i e
      refine Ev.st (fun k => by rw [regletref09_Same.l1]) (Ev.dp (by omega) ?_)
      refine Ev.at_ (by omega) (by omega) ?_
      refine Ev.at_ (by omega) (by omega) ?_
      refine Ev.xn rfl ?_
      rw [nx i (by omega)]
      exact ih (i + 1) (by omega)
  exact Ev.xn rfl (Ev.xn rfl (Ev.xn rfl (Ev.st (fun k => by rw [regletref09_Same.j0]; rfl) (l1 a.1.length 0 (by omega)))))
theorem Net.Way.len {N : Net} : ∀ {W : List Nat} {a : Nat} {c t u : Int}, N.Way a c t W u → a + W.length ≤ N.n
 | [], _, _, _, _, h => by have := h.1; simp; omega
 | j :: r, a, _, _, _, h => by
  have := Net.Way.len h.2
  have := h.1.1
  simp only [List.length_cons]; omega
theorem Brk.uniq {l : List api_Item} {w : Int} {s : api_Settings} {W W' : List Nat} {u u' : Int} {e e' : Bool} (h : Brk l w s W u e) (k : Brk l w s W' u' e') : W = W' ∧ u = u' ∧ e = e' := by
  have ee : e = e' := by
    cases e with
    | true =>
      cases e' with
      | true => rfl
      | false => exact absurd k.first.1 (h.tight rfl _ _)
    | false =>
      cases e' with
      | true => exact absurd h.first.1 (k.tight rfl _ _)
      | false => rfl
  subst ee
  have := h.first.uniq k.first
  exact ⟨this.1, this.2, rfl⟩
theorem Brk.len {l : List api_Item} {w : Int} {s : api_Settings} {W : List Nat} {u : Int} {e : Bool} (h : Brk l w s W u e) : W.length ≤ (ends l).length := by
  have := h.first.1.len
  rwa [Nat.zero_add] at this
theorem Brk.range {l : List api_Item} {w : Int} {s : api_Settings} {W : List Nat} {u : Int} {e : Bool} (h : Brk l w s W u e) : 0 ≤ u ∧ u ≤ 1125899906842624 := h.first.1.range (Int.le_refl 0) (by omega)
end Go.Proofs.Ytpnodmiincdljaa.Vm
