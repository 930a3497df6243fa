/- A style of a number; a rune's width in it. -/
import Derived.Test.YtepeoiimdefnpaaTk
namespace Go.Proofs.Ytepeoiimdefnpaa.Vm
open Go
open _root_.Go.RowKit (wrap64)
def zSty : Styl := (0, 0, 0, 0, 0, 0, [], false)
/-- a style; the zero one, if there is none -/
def ofS (l : List Styl) (n : Int) : Styl := if 0 ≤ n ∧ n < l.length then rd l n else zSty
theorem TCheck_ev (l : List Styl) (n : Int) : Ev (fun k => metrics_Table_Check.f k l n) (if 0 ≤ n ∧ n < l.length then 0 else 43) := by
  refine Ev.dc (fun h => Ev.some_ (by rw [if_neg (by omega)])) (fun h => Ev.dc (fun q => Ev.some_ (by rw [if_neg (by omega)])) (fun q => Ev.some_ (by rw [if_pos (by omega)])))
theorem sof_ev (l : List Styl) (n : Int) : Ev (fun k => metrics_Table_of.f k l n) (ofS l n) := by
  have C := TCheck_ev l n
  unfold ofS
  by_cases h : 0 ≤ n ∧ n < l.length
  · rw [if_pos h] at C ⊢
    refine Ev.bind C (Ev.xn rfl ?_)
    exact Ev.at_ h.1 h.2 (Ev.now _)
  · rw [if_neg h] at C ⊢
    exact Ev.bind C (Ev.xp (by decide) (Ev.now _))
/-- what is known of a style that is one of a right table -/
theorem ofS_ok {l : List Styl} (h : ∀ s ∈ l, styC s = 0) (n : Int) : (ofS l n).2.2.2.2.2.2.1.length ≤ 64 ∧ rngC (-1) (ofS l n).2.2.2.2.2.2.1 = 0 ∧ UnitOk (ofS l n).2.1 0 ∧ UnitOk (ofS l n).2.2.1 0 ∧ UnitOk (ofS l n).2.2.2.1 0 ∧ UnitOk (ofS l n).2.2.2.2.1 0 ∧ UnitOk (ofS l n).2.2.2.2.2.1 0 ∧ (ofS l n).2.2.2.1 ≤ (ofS l n).2.1 := by
  unfold ofS
  by_cases q : 0 ≤ n ∧ n < l.length
  · rw [if_pos q]
    obtain ⟨⟨_, b, c, d, e, f, g⟩, x, y⟩ := styC_ok (h _ (rd_mem q.1 q.2))
    exact ⟨x, y, b, c, d, e, f, g⟩
  · rw [if_neg q]
    refine ⟨?_, ?_, ?_, ?_, ?_, ?_, ?_, ?_⟩ <;> simp [zSty, rngC, UnitOk]
/-- by the ranges, from the first on -/
def findR (r o : Int) : List Rng → Int
  | [] => o
  | x :: xs => if x.1 ≤ r ∧ r ≤ x.2.1 then x.2.2 else findR r o xs
/-- ranges that are right rise -/
theorem rngC_rise : ∀ (l : List Rng) (above : Int), rngC above l = 0 →
    (∀ i : Nat, i < l.length → above < (rd l (i : Int)).1 ∧ (rd l (i : Int)).1 ≤ (rd l (i : Int)).2.1) ∧ ∀ i j : Nat, i < j → j < l.length → (rd l (i : Int)).2.1 < (rd l (j : Int)).1
  | [], _, _ => ⟨fun i h => by simp at h, fun i j _ h => by simp at h⟩
  | x :: r, above, h => by
    have r0 : rd (x :: r) ((0 : Nat) : Int) = x := rfl
    have rs : ∀ i : Nat, rd (x :: r) ((i + 1 : Nat) : Int) = rd r (i : Int) := fun i => by rw [rd_nat, rd_nat, List.getD_cons_succ]
    unfold rngC at h
    by_cases q : x.1 ≤ above ∨ x.2.1 < x.1 ∨ 1114111 < x.2.1
    · rw [if_pos q] at h; omega
    rw [if_neg q] at h
    by_cases u : UnitOk x.2.2 0
    · rw [if_pos u] at h
      obtain ⟨h1, h2⟩ := rngC_rise r x.2.1 h
      refine ⟨fun i hi => ?_, fun i j hij hj => ?_⟩
      · cases i with
        | zero => rw [r0]; omega
        | succ i =>
          rw [rs]
          have := h1 i (by simpa using hi)
          omega
      · cases j with
        | zero => omega
        | succ j =>
          rw [rs]
          cases i with
          | zero => rw [r0]; exact (h1 j (by simpa using hj)).1
          | succ i => rw [rs]; exact h2 i j (by omega) (by simpa using hj)
    · rw [if_neg u] at h; omega
theorem findR_skip (r o : Int) (l : List Rng) : ∀ (d i : Nat), i + d ≤ l.length → (∀ j : Nat, i ≤ j → j < i + d → ¬ ((rd l (j : Int)).1 ≤ r ∧ r ≤ (rd l (j : Int)).2.1)) → findR r o (l.drop i) = findR r o (l.drop (i + d)) := by
  intro d
  induction d with
  | zero => intro i _ _; rfl
  | succ d ih =>
    intro i hi hn
    rw [drop_rd l i (by omega), findR, if_neg (hn i (by omega) (by omega)), ih (i + 1) (by omega) (fun j h1 h2 => hn j (by omega) (by omega)), show i + 1 + d = i + (d + 1) by omega]
end Go.Proofs.Ytepeoiimdefnpaa.Vm
