/- Styles together: their first fault; the table of right ones. -/
import Derived.Test.YtepeoiimdefnpaaTj
namespace Go.Proofs.Ytepeoiimdefnpaa.Vm
open Go
open _root_.Go.RowKit (wrap64)
def scanC : Int → List Styl → Int × Int
  | _, [] => (0, 0)
  | i, s :: r => if styC s = 0 then scanC (i + 1) r else (styC s, i)
/-- the first fault of styles, and its place -/
def chkL (l : List Styl) : Int × Int := if l.length = 0 ∨ 32 < (l.length : Int) then (40, 0) else scanC 0 l
theorem refCheck_loop (l : List Styl) (hl : l.length ≤ 32) : ∀ (d i : Nat), i + d = l.length → Ev (fun k => regletref04_Check.l1 k l (i : Int)) (scanC i (l.drop i)) := by
  intro d
  induction d with
  | zero =>
    intro i hi
    refine Ev.st (fun k => by rw [regletref04_Check.l1]) (Ev.dn (by omega) (Ev.some_ ?_))
    rw [List.drop_of_length_le (by omega)]; rfl
  | succ d ih =>
    intro i hi
    rw [drop_rd l i (by omega)]
    refine Ev.st (fun k => by rw [regletref04_Check.l1]) (Ev.dp (by omega) ?_)
    refine Ev.at_ (by omega) (by omega) ?_
    have ih' := ih (i + 1) (by omega)
    generalize rd l (i : Int) = x at *
    unfold scanC
    refine Ev.bind (refStyle_ev x) (Ev.xc (fun h => Ev.some_ (by rw [if_neg h])) (fun h => ?_))
    rw [if_pos h, nx i (by omega)]
    exact ih'
theorem refCheck_ev (l : List Styl) : Ev (fun k => regletref04_Check.f k l) (chkL l) := by
  unfold chkL
  refine Ev.dc (fun h => Ev.some_ (by rw [if_pos (.inl (by omega))])) (fun h => Ev.dc (fun h1 => Ev.some_ (by rw [if_pos (.inr h1)])) (fun h1 => ?_))
  rw [if_neg (by omega)]
  exact Ev.st (fun k => by rw [regletref04_Check.j0]; rfl) (refCheck_loop l (by omega) l.length 0 (by omega))
/-- what metrics.New answers -/
def newC (l : List Styl) (c : Int × Int) : Option (List Styl) × Int × Int := if c.1 = 0 then (some l, 0, 0) else (none, c.1, c.2)
theorem New_loop (l : List Styl) (hl : l.length ≤ 32) : ∀ (d i : Nat), i + d = l.length → Ev (fun k => metrics_New.l1 k l (l.length : Int) (i : Int) (l.take i)) (newC l (scanC i (l.drop i))) := by
  intro d
  induction d with
  | zero =>
    intro i hi
    refine Ev.st (fun k => by rw [metrics_New.l1]) (Ev.dn (by omega) (Ev.some_ ?_))
    rw [List.drop_of_length_le (by omega), List.take_of_length_le (by omega)]; rfl
  | succ d ih =>
    intro i hi
    rw [drop_rd l i (by omega)]
    refine Ev.st (fun k => by rw [metrics_New.l1]) (Ev.dp (by omega) ?_)
    refine Ev.at_ (by omega) (by omega) ?_
    have ih' := ih (i + 1) (by omega)
    rw [take_rd l i (by omega)] at ih'
    generalize rd l (i : Int) = x at *
    unfold scanC
    refine Ev.bind (check_ev x) (Ev.xc (fun h => Ev.some_ (by rw [if_neg h]; unfold newC; rw [if_neg h])) (fun h => ?_))
    have h64 : x.2.2.2.2.2.2.1.length ≤ 64 := by
      unfold styC at h
      by_cases hu : UnitsOk x
      · rw [if_pos hu] at h
        by_cases q : 64 < (x.2.2.2.2.2.2.1.length : Int)
        · rw [if_pos q] at h; omega
        · omega
      · rw [if_neg hu] at h; omega
    rw [if_pos h]
    refine Ev.ifp (by rw [List.length_nil]; omega) ?_
    refine Ev.ifp (by rw [List.length_take, List.length_singleton]; omega) ?_
    rw [nx i (by omega)]
    exact ih'
theorem MNew_ev (l : List Styl) : Ev (fun k => metrics_New.f k l) (newC l (chkL l)) := by
  unfold chkL
  refine Ev.dc (fun h => Ev.some_ (by rw [if_pos (.inl (by omega))]; rfl)) (fun h => Ev.dc (fun h1 => Ev.some_ (by rw [if_pos (.inr h1)]; rfl)) (fun h1 => ?_))
  rw [if_neg (by omega)]
  exact Ev.st (fun k => by rw [metrics_New.j0]; rfl) (New_loop l (by omega) l.length 0 (by omega))
/-- what is known of styles that are right -/
theorem scanC_ok : ∀ (l : List Styl) (i : Int), (scanC i l).1 = 0 → ∀ s ∈ l, styC s = 0
  | [], _, _, s, hs => by cases hs
  | x :: r, i, h, s, hs => by
    unfold scanC at h
    by_cases q : styC x = 0
    · rw [if_pos q] at h
      rcases List.mem_cons.1 hs with rfl | hs
      · exact q
      · exact scanC_ok r _ h s hs
    · rw [if_neg q] at h; exact absurd h q
theorem chkL_ok {l : List Styl} (h : (chkL l).1 = 0) : 0 < l.length ∧ l.length ≤ 32 ∧ ∀ s ∈ l, styC s = 0 := by
  unfold chkL at h
  by_cases q : l.length = 0 ∨ 32 < (l.length : Int)
  · rw [if_pos q] at h; simp at h
  · rw [if_neg q] at h
    exact ⟨by omega, by omega, scanC_ok l 0 h⟩
theorem styC_ok {s : Styl} (h : styC s = 0) : UnitsOk s ∧ s.2.2.2.2.2.2.1.length ≤ 64 ∧ rngC (-1) s.2.2.2.2.2.2.1 = 0 := by
  unfold styC at h
  by_cases hu : UnitsOk s
  · rw [if_pos hu] at h
    by_cases q : 64 < (s.2.2.2.2.2.2.1.length : Int)
    · rw [if_pos q] at h; omega
    · rw [if_neg q] at h; exact ⟨hu, by omega, h⟩
  · rw [if_neg hu] at h; omega
end Go.Proofs.Ytepeoiimdefnpaa.Vm
